-- printed (wip/tools/myprint.py)
import Derived.Test.YtknclbodinfbeaaGreatDoorPRunsBackx0
import Derived.Test.YtknclbodinfbeaaGreatDoorPRunsBackx3
import Derived.Test.YtknclbodinfbeaaGreatDoorPRunsBackx4
namespace Go.Proofs.YtknclbodinfbeaaGreatDoor.PRunsBack
open Go.RowKit Go.Proofs.YtknclbodinfbeaaGreatDoorW.PrintWords Go.Proofs.YtknclbodinfbeaaGreatDoorW.PrintLast Go.Proofs.YtknclbodinfbeaaGreatDoorW.PrintMore
attribute [local go_sem] yo ym yC yD xU xT yn yq
set_option linter.unusedVariables false
set_option linter.unusedSimpArgs false
set_option maxHeartbeats 8000000
set_option maxRecDepth 100000
def ya.f (k : Nat) (l0 : List (wb)) (l1 : List (z6)) (q : Bool) (r : Int) : Option (List Int × Int) := (xv.f k l0 q r).bind fun d => (if d.1 < 0 then (some (([] : List Int), 5)) else (if 0 ≤ d.1 then (if d.1 < (l1.length : Int) then ((wR.f k ((yp l1 d.1).f0) ((yp l1 d.1).f1)).bind fun e => (if d.1 < (l0.length : Int) then ((wR.f k d.2 ((vk l0 d.1).f1)).bind fun j => (if e.length + j.length < 140737488355328 then (some ((e ++ j), 0)) else (none))) else (none))) else (none)) else (none)))
theorem ya.mono : ∀ a0 a1 a2 a3 k, vK (ya.f k a0 a1 a2 a3) (ya.f (k + 1) a0 a1 a2 a3) := by
 intro a0 a1 a2 a3 k
 unfold ya.f
 repeat' first
   | (with_reducible exact wR.mono _ _ _)
   | (with_reducible exact xv.mono _ _ _ _)
   | (with_reducible first | exact vK.refl _ | exact vK.none _ | apply vK.ite | apply vK.bind | intro)
def ya.T4 : Bool × List (List Nat × List Nat) := (true, [([], []), ([], []), ([0, 1], [0, 1]), ([2], [2]), ([3], [3]), ([], []), ([], []), ([5, 6], [5, 6]), ([7], [7]), ([8], [8]), ([4, 9], [4, 9]), ([], []), ([], []), ([], []), ([12, 13], [12, 13]), ([14], [14]), ([15], [15]), ([11, 16, 10], [11, 16]), ([10, 17, 17], [10, 17]), ([18, 18, 0, 1, 2, 3, 4, 5, 6, 7, 8, 9, 10, 11, 12, 13, 14, 15, 16, 17, 18], [18]), ([19, 0, 1, 2, 3, 4, 5, 6, 7, 8, 9, 10, 11, 12, 13, 14, 15, 16, 17, 18, 19], [])])
def ya.B4 : List Nat := [0, 0, 3, 7, 15, 0, 0, 96, 224, 480, 1023, 0, 0, 0, 12288, 28672, 61440, 131071, 262143, 524287, 1048575]
theorem ya.tab4 : zi .any (opsOf Tryz.f57 4) = ya.T4 := by kernel_rfl
theorem ya.bits4 : yv ya.T4.2 ya.B4 = true := by kernel_rfl
theorem ya.calls (k : Nat) (A0 : Option Addr) (c0 : Nat) (l0 : List (wb)) (A1 : Option Addr) (c1 : Nat) (l1 : List (z6)) (Z : Bool) (a0 : Int) (r1 : List Int) (r2 : Int) (w : World) (hr0 : Kd.C yj w A0 l0.length l0) (d2 : l0.length ≤ c0) (hr1 : Kd.C jJ w A1 l1.length l1) (d3 : l1.length ≤ c1) (h : ya.f k l0 l1 Z a0 = some (r1, r2)) :
  Calls Tryz.prog 57 #[.slice A0 l0.length c0, .slice A1 l1.length c1, .agg #[.bool Z, .int .i64 a0]] w fun e w' => ∃ d4 : Value, e = .returned (.tuple #[d4, .int .i64 r2]) ∧ Kd.R (Kd.int .u8) 5 w' w.heap.size (fun _ => True) d4 r1 ∧ Below w.heap.size w w' := by
 have hu69 := Tryz.underlying69
 have b4 := aE hr0
 have d5 := aE d2
 clear hr0 d2
 have d6 := aE hr1
 have g6 := aE d3
 clear hr1 d3
 have HB := bR w
 have H := h
 unfold ya.f at H
 clear h
 obtain ⟨⟨d, a2⟩, A4, H⟩ := oB H
 try dsimp only at H
 rcases iL H with H1 | H1 <;> clear H <;> obtain ⟨H, g2⟩ := H1
 ·simp only [Option.some.injEq, Prod.mk.injEq] at H
  obtain ⟨rfl, rfl⟩ := H
  go_enter Tryz.func57, Tryz.ntmps57
  go_wp2_with (first | ((with_reducible refine gd 5 rfl ?_); refine bx 5 #[.bool Z, .int .i64 a0] 69 rfl rfl ?_; intro b5 hg w6 hbox hb; have n_ := aC (bs hb) (aC hbox (aC (gz hg) (aE (gz hg)))); clear HB; obtain ⟨HB, j, b6, b7⟩ := n_; clear hb hbox hg; obtain ⟨e8, e9, f4, f5⟩ := yM j.out) | ((with_reducible refine gf 81 rfl ?_); refine gL (some 13) rfl rfl Tryz.func81 rfl #[.slice A0 l0.length c0, .agg #[.bool Z, .int .i64 a0]] rfl ?_; (with_reducible refine (xv.calls k _ _ l0 Z a0 d a2 _ ?side1 ?side2 A4.out).mono ?_); (case side1 => exact cU (Kd.wz b4.out HB.out)); (case side2 => exact d5.out); rintro e w8 ⟨rfl, hb⟩; refine ⟨_, rfl, ?_⟩; have n_ := aC (vp (bU j.out) hb) (aE (bs hb)); clear j HB; obtain ⟨j, HB⟩ := n_))
  go_ret2
  exact ⟨_, re, by first | exact Kd.yu _ _ _ _ _ | exact Kd.yR _ _ _ _ _ | exact Kd.yS _ _ _ _ _ | exact Kd.yP _ _ _ _ _ | exact Kd.yV _ _ _ _ _, bl⟩
 ·by_cases c9 : 0 ≤ d
  ·rw [if_pos c9] at H
   have g3 := decide_eq_true c9
   clear c9
   by_cases c10 : d < (l1.length : Int)
   ·rw [if_pos c10] at H
    have f6 := decide_eq_true c10
    clear c10
    obtain ⟨a3, f7, H⟩ := oB H
    try dsimp only at H
    by_cases b1 : d < (l0.length : Int)
    ·rw [if_pos b1] at H
     have f8 := decide_eq_true b1
     clear b1
     obtain ⟨a1, f9, H⟩ := oB H
     try dsimp only at H
     by_cases b2 : a3.length + a1.length < 140737488355328
     ·rw [if_pos b2] at H
      have b8 := aE b2
      clear b2
      obtain ⟨d7, hy_⟩ : ∃ y_ : List Int, y_ = (a3 ++ a1) := ⟨_, rfl⟩
      replace H : (some (d7, 0)) = some (r1, r2) := rh
      have b9 := aE hy_
      clear hy_
      simp only [Option.some.injEq, Prod.mk.injEq] at H
      obtain ⟨rfl, rfl⟩ := H
      go_enter Tryz.func57, Tryz.ntmps57
      try go_wp2_with (first | ((with_reducible refine gd 5 rfl ?_); refine bx 5 #[.bool Z, .int .i64 a0] 69 rfl rfl ?_; intro b5 hg g7 hbox hb; have n_ := aC (bs hb) (aC hbox (aC (gz hg) (aE (gz hg)))); clear HB; obtain ⟨HB, j, b6, b7⟩ := n_; clear hb hbox hg; obtain ⟨d8, d9, e0, e1⟩ := yM j.out) | ((with_reducible refine gf 81 rfl ?_); refine gL (some 13) rfl rfl Tryz.func81 rfl #[.slice A0 l0.length c0, .agg #[.bool Z, .int .i64 a0]] rfl ?_; (with_reducible refine (xv.calls k _ _ l0 Z a0 d a2 _ ?side1 ?side2 A4.out).mono ?_); (case side1 => exact cU (Kd.wz b4.out HB.out)); (case side2 => exact d5.out); rintro e g0 ⟨rfl, hb⟩; refine ⟨_, rfl, ?_⟩; have n_ := aC (vp (bU j.out) hb) (aE (bs hb)); clear j HB; obtain ⟨j, HB⟩ := n_))
      have n_ := aC (vn j.out) (aE (vy HB.out))
      clear j HB
      obtain ⟨j, HB⟩ := n_
      have a5 : 0 ≤ (d : Int) := dt
      have a6 : d < (l1.length : Int) := dt
      obtain ⟨q, e2, t, u⟩ := at_T129 d6.out d a5 a6
      have x := u
      have y := t
      cases e2
      replace t := hcB HB.out t
      replace u := hcB HB.out u
      replace a5 := eq_true a5
      replace a6 := eq_true a6
      have a7 : 0 ≤ (d : Int) := dt
      have a8 : d < (l1.length : Int) := dt
      obtain ⟨d0, e3, z, B⟩ := at_T129 d6.out d a7 a8
      have D := B
      have E := z
      obtain rfl : q = d0 := (by injection e3)
      replace z := hcB HB.out z
      replace B := hcB HB.out B
      replace a7 := eq_true a7
      replace a8 := eq_true a8
      have a9 : 0 ≤ (d : Int) := dt
      have b0 : d < (l0.length : Int) := dt
      obtain ⟨r, e4, G, I, J, L⟩ := xr b4.out d a9 b0
      have M := L
      have O := J
      have T := I
      have X := G
      cases e4
      replace G := hcB HB.out G
      replace I := hcB HB.out I
      replace J := hcB HB.out J
      replace L := hcB HB.out L
      replace a9 := eq_true a9
      replace b0 := eq_true b0
      refine st 21 (fun w' => w'.cell? (q.add ((d).toNat * 2)) = some (.int .i64 ((yp l1 d).f0)) ∧ w'.cell? ⟨(q.add ((d).toNat * 2)).block, (q.add ((d).toNat * 2)).off + 1, none⟩ = some (.int .i64 ((yp l1 d).f1)) ∧ w'.cell? (q.add ((d).toNat * 2)) = some (.int .i64 ((yp l1 d).f0)) ∧ w'.cell? ⟨(q.add ((d).toNat * 2)).block, (q.add ((d).toNat * 2)).off + 1, none⟩ = some (.int .i64 ((yp l1 d).f1)) ∧ w'.cell? (r.add ((d).toNat * 4)) = some (.int .i64 ((vk l0 d).f0)) ∧ w'.cell? ⟨(r.add ((d).toNat * 4)).block, (r.add ((d).toNat * 4)).off + 1, none⟩ = some (.int .i64 ((vk l0 d).f1)) ∧ w'.cell? ⟨(r.add ((d).toNat * 4)).block, (r.add ((d).toNat * 4)).off + 2, none⟩ = some (.int .i64 ((vk l0 d).f2)) ∧ w'.cell? ⟨(r.add ((d).toNat * 4)).block, (r.add ((d).toNat * 4)).off + 3, none⟩ = some (.int .i64 ((vk l0 d).f3))) [] (bv 21 0) ya.tab4 ya.bits4 ⟨(hcB HB.out y), (hcB HB.out x), (hcB HB.out E), (hcB HB.out D), (hcB HB.out X), (hcB HB.out T), (hcB HB.out O), (hcB HB.out M)⟩ (fun hHeld HT_ HW_ => ?_)
      generalize g0.drew = g8 at j HB t u z B G I J L hHeld ⊢
      refine pu 0 18 (bv 21 1) HT_ rfl rfl ?_
      refine pu 1 19 (bv 21 3) HT_ rfl rfl ?_
      refine pu 2 20 (bv 21 7) HT_ rfl rfl ?_
      refine pu 3 21 (bv 21 15) HT_ rfl rfl ?_
      refine pu 5 23 (bv 21 47) HT_ rfl rfl ?_
      refine pu 6 24 (bv 21 111) HT_ rfl rfl ?_
      refine pu 7 25 (bv 21 239) HT_ rfl rfl ?_
      refine pu 8 26 (bv 21 495) HT_ rfl rfl ?_
      refine pu 11 29 (bv 21 2543) HT_ rfl rfl ?_
      refine pu 12 30 (bv 21 6639) HT_ rfl rfl ?_
      refine pu 13 31 (bv 21 14831) HT_ rfl rfl ?_
      refine pu 14 32 (bv 21 31215) HT_ rfl rfl ?_
      refine pu 15 33 (bv 21 63983) HT_ rfl rfl ?_
      refine tk 4 22 (bv 21 63999) HT_ HW_ hHeld rfl rfl (by rintro w' ⟨s0, s1, s2, s3, s4, s5, s6, s7⟩; exact yl) ?_
      refine tk 9 27 (bv 21 64511) HT_ HW_ hHeld rfl rfl (by rintro w' ⟨s0, s1, s2, s3, s4, s5, s6, s7⟩; exact yl) ?_
      refine tk 16 34 (bv 21 130047) HT_ HW_ hHeld rfl rfl (by rintro w' ⟨s0, s1, s2, s3, s4, s5, s6, s7⟩; exact yl) ?_
      refine yA (i := 10) (N := some 28) (bv 21 131071) rfl rfl (xl HT_.out (by kernel_rfl)) (by decide) (fun K hK => ?_)
      refine gK Tryz.func82 rfl #[.int .i64 ((yp l1 d).f0), .int .i64 ((yp l1 d).f1)] rfl rfl ?_
      with_reducible refine (wR.calls k ((yp l1 d).f0) ((yp l1 d).f1) a3 _ f7.out).mono ?_
      rintro e g9 ⟨e5, rfl, a4, hb⟩
      refine ⟨_, rfl, ?_⟩
      have n_ := aC (Kd.vS a4 bz) (aC (vp (bU j.out) hb) (aE (bs hb)))
      clear j HB
      obtain ⟨s, j, HB⟩ := n_
      (try clear hb)
      (try clear g1)
      (try clear hk)
      (try clear hi)
      (try clear a4)
      refine hK.out _ _ ⟨(hcB HB.out y), (hcB HB.out x), (hcB HB.out E), (hcB HB.out D), (hcB HB.out X), (hcB HB.out T), (hcB HB.out O), (hcB HB.out M)⟩ (fun hHeld => ?_)
      clear hK K
      refine nm (some 28) ?_
      refine yA (i := 17) (N := some 35) (bv 21 262143) rfl rfl (xl HT_.out (by kernel_rfl)) (by decide) (fun K hK => ?_)
      refine gK Tryz.func82 rfl #[.int .i64 a2, .int .i64 ((vk l0 d).f1)] rfl rfl ?_
      with_reducible refine (wR.calls k a2 ((vk l0 d).f1) a1 _ f9.out).mono ?_
      rintro e h3 ⟨g4, rfl, a4, hb⟩
      refine ⟨_, rfl, ?_⟩
      have n_ := aC (Kd.R_elder' (rU s.out) (Kd.xc a4) hb) (aC (Kd.vS (Kd.R_new' a4 (Kd.xW (rU s.out))) bz) (aC (vp (bU j.out) hb) (aE (bs hb))))
      clear s j HB
      obtain ⟨s, Y, j, HB⟩ := n_
      (try clear hb)
      (try clear g1)
      (try clear hk)
      (try clear hi)
      (try clear a4)
      obtain ⟨e6, e7, b3⟩ := Kd.vY Y.out
      (first | subst b3 | (injection b3 with f1_ f2_ f3_; have f4_ := f1_.symm; have f5_ := f3_.symm; clear f1_ f2_ f3_; subst f4_; subst f5_))
      refine hK.out _ _ ⟨(hcB HB.out y), (hcB HB.out x), (hcB HB.out E), (hcB HB.out D), (hcB HB.out X), (hcB HB.out T), (hcB HB.out O), (hcB HB.out M)⟩ (fun hHeld => ?_)
      clear hK K
      refine nm (some 35) ?_
      refine yA (i := 18) (N := some 36) (bv 21 524287) rfl rfl (xl HT_.out (by kernel_rfl)) (by decide) (fun K hK => ?_)
      refine Kd.xJ (Kd.int .u8) (w0 := w) w.heap.size (by rfl) (.tmp 28) (.tmp 35) 22 5 (.int .u8 0) 1 rfl Tryz.underlying22 info5 rfl (by decide) (by omega) e5 a3 a1 _ _ _ (fun k_ => some k_ ≠ (.slice e6 a1.length e7 : Value).ownBlock) (fun _ => False) rfl rfl ?aO ?aR (fun _ _ h => h) (fun _ h => h.elim) ?aF ?aB ?aS ?aL ?_
      (case aR => repeat (first | exact (Kd.R_reads' Y.out).2.2 | (with_reducible refine Kd.yi ?_ _) | (with_reducible refine Kd.yg ?_ _) | (with_reducible refine Kd.yr ?_)))
      (case aB => exact bl)
      (case aF => exact (fun k_ hk => Kd.fresh' (Kd.xW (rU Y.out)) k_ hk))
      (case aO => exact (rU (Kd.vU s.out (fun _ hk => hk.2))))
      (case aS => exact bz)
      (case aL => have := b8.out; omega)
      intro g5 h4 ho hb hg hat
      rw [← b9.out] at ho
      have n_ := aC (xz (bU j.out) hg (Kd.ja s.out j.out (by decide))) (aC (Kd.yG (ok := (fun _ => True)) (rU Y.out) hg hat) (aC hb (aE ho)))
      clear j Y HB s
      obtain ⟨j, Y, HB, d1⟩ := n_
      clear ho hb hg hat
      refine hK.out _ _ ⟨(hcB HB.out y), (hcB HB.out x), (hcB HB.out E), (hcB HB.out D), (hcB HB.out X), (hcB HB.out T), (hcB HB.out O), (hcB HB.out M)⟩ (fun hHeld => ?_)
      clear hK K
      refine nm (some 36) ?_
      refine pu 19 6 (bv 21 1048575) HT_ rfl rfl ?_
      refine pu 20 7 (bv 21 2097151) HT_ rfl rfl ?_
      refine zd (xZ HT_.out (by kernel_rfl)) ?_
      try go_wp2
      go_ret2
      exact ⟨_, re, rU (Kd.vU d1.out (fun _ hk => trivial)), bl⟩
     ·rw [if_neg b2] at H
      exact nB H
    ·rw [if_neg b1] at H
     exact nB H
   ·rw [if_neg c10] at H
    exact nB H
  ·rw [if_neg c9] at H
   exact nB H
mutual
def wJ.l0 : Nat → List (wb) → List (z6) → Int → Int → Int → Option ((List (z6)))
 | 0, _, _, _, _, _ => none
 | k + 1, x0, x3, x5, e, d => if x5 ≤ 15 then (if 0 ≤ (wrap64 (x5 - d)) then (wJ.l1 k x0 x3 x5 x0 (x0.length : Int) 0 (shl .i64 e (wrap64 (x5 - d))) x5) else (none)) else (some x3)
def wJ.l1 : Nat → List (wb) → List (z6) → Int → List (wb) → Int → Int → Int → Int → Option ((List (z6)))
 | 0, _, _, _, _, _, _, _, _ => none
 | k + 1, x0, x3, x5, q, r, j, d, e => if j < r then (if 0 ≤ j then (if j < (q.length : Int) then (if ((vk q j).f0) = x5 then (if j < (x3.length : Int) then (wJ.l1 k x0 (x3.set (j : Int).toNat (⟨d, e⟩ : z6)) x5 q r (wrap64 (j + 1)) (wrap64 (d + 1)) e) else (none)) else (wJ.l1 k x0 x3 x5 q r (wrap64 (j + 1)) d e)) else (none)) else (none)) else (wJ.l0 k x0 x3 (wrap64 (x5 + 1)) d e)
end
def wJ.f (k : Nat) (l0 : List (wb)) : Option ((List (z6))) := if 0 ≤ (l0.length : Int) then (if ((l0.length : Int) : Int).toNat ≤ 17592186044416 then (wJ.l0 k l0 (List.replicate ((l0.length : Int) : Int).toNat z129) 1 0 1) else (none)) else (none)
theorem wJ.wt : ∀ k, (∀ y0 y1 y2 y3 y4, vK (wJ.l0 k y0 y1 y2 y3 y4) (wJ.l0 (k + 1) y0 y1 y2 y3 y4)) ∧ (∀ y0 y1 y2 y3 y4 y5 y6 y7, vK (wJ.l1 k y0 y1 y2 y3 y4 y5 y6 y7) (wJ.l1 (k + 1) y0 y1 y2 y3 y4 y5 y6 y7))
 | 0 => ⟨fun _ _ _ _ _ r h => by simp [wJ.l0] at h, fun _ _ _ _ _ _ _ _ r h => by simp [wJ.l1] at h⟩
 | k + 1 => by
  obtain ⟨ih0, ih1⟩ := wJ.wt k
  refine ⟨?_, ?_⟩
  ·intro y0 y1 y2 y3 y4
   unfold wJ.l0
   repeat' first
   | (with_reducible exact ih0 _ _ _ _ _)
   | (with_reducible exact ih1 _ _ _ _ _ _ _ _)
   | (with_reducible first | exact vK.refl _ | exact vK.none _ | apply vK.ite | apply vK.bind | intro)
  ·intro y0 y1 y2 y3 y4 y5 y6 y7
   unfold wJ.l1
   repeat' first
   | (with_reducible exact ih0 _ _ _ _ _)
   | (with_reducible exact ih1 _ _ _ _ _ _ _ _)
   | (with_reducible first | exact vK.refl _ | exact vK.none _ | apply vK.ite | apply vK.bind | intro)
theorem wJ.mono : ∀ a0 k, vK (wJ.f k a0) (wJ.f (k + 1) a0) := by
 intro a0 k
 obtain ⟨ih0, ih1⟩ := wJ.wt k
 unfold wJ.f
 repeat' first
   | (with_reducible exact ih0 _ _ _ _ _)
   | (with_reducible exact ih1 _ _ _ _ _ _ _ _)
   | (with_reducible first | exact vK.refl _ | exact vK.none _ | apply vK.ite | apply vK.bind | intro)
theorem wJ.calls (k : Nat) (A0 : Option Addr) (c0 : Nat) (l0 : List (wb)) (r : List (z6)) (w : World) (hr0 : Kd.C yj w A0 l0.length l0) (e1 : l0.length ≤ c0) (h : wJ.f k l0 = some r) :
  Calls Tryz.prog 58 #[.slice A0 l0.length c0] w fun e w' => ∃ e2 : Value, e = .returned (e2) ∧ Kd.R jJ 129 w' w.heap.size (fun _ => True) e2 r ∧ Below w.heap.size w w' := by
 have hu129 := Tryz.underlying129
 have hu105 := Tryz.underlying105
 have e3 := aE hr0
 have m3 := aE e1
 clear hr0 e1
 have HB := bR w
 have H := h
 unfold wJ.f at H
 clear h
 by_cases c2 : 0 ≤ (l0.length : Int)
 ·rw [if_pos c2] at H
  have l8 := eq_true c2
  have l9 := decide_eq_true c2
  clear c2
  by_cases c3 : ((l0.length : Int) : Int).toNat ≤ 17592186044416
  ·rw [if_pos c3] at H
   have m0 := eq_true c3
   have m1 := decide_eq_true c3
   clear c3
   obtain ⟨d0, hy_⟩ : ∃ y_ : List (z6), y_ = (List.replicate ((l0.length : Int) : Int).toNat z129) := ⟨_, rfl⟩
   replace H : (wJ.l0 k l0 d0 1 0 1) = some r := rh
   have a8 := aE hy_
   clear hy_
   have H' := aE H
   clear H
   go_enter Tryz.func58, Tryz.ntmps58
   go_wp2_with (first | ((with_reducible refine gd 10 rfl ?_); refine Kd.jN jJ _ 129 rfl (N := 10) rfl 102 _ _ rfl (l0.length : Int) rfl rfl Tryz.underlying102 (.agg #[(.int .i64 0), (.int .i64 0)]) 16 info129 rfl (by decide) (by omega) z129 (ok := fun _ => True) (okp := fun _ => True) (k129_mkM _ _ _ z129 ) (fun _ hk => hk) trivial (dt) (Nat.le_trans (Nat.mul_le_mul_right _ (dt : (l0.length : Int).toNat ≤ 17592186044416)) (by omega)) (Below.refl _ _) (Nat.le_refl _) ?_; intro a9 w4 b0 hb hg_ hnew_; clear hg_ hnew_; (first | rw [← a8.out] at b0 | (simp only [Int.reduceToNat] at b0; rw [← a8.out] at b0)); have n_ := aC (Kd.vS b0 bz) (aE (bs hb)); clear HB; obtain ⟨a4, HB⟩ := n_; clear hb b0) | ((with_reducible refine gd 4 rfl ?_); refine bx 4 #[.int .i64 0, .int .i64 0] 129 rfl rfl ?_; intro B hg w6 hbox hb; have n_ := aC (Kd.wg (Kd.kd (rU a4.out) B (Nat.le_of_eq hg.symm)) hb) (aC (bs hb) (aC hbox (aC (gz hg) (aE (gz hg))))); clear a4 HB; obtain ⟨a4, HB, u, j7, j8⟩ := n_; clear hb hbox hg; obtain ⟨i7, i8, i9, j2⟩ := yM u.out))
   go_loopg [5] k (fun kq v5 w' => ∃ (a3 : List (z6)) (J : Int) (y : Int) (D : Int), v5 = .int .i64 J ∧ Aside0 (wJ.l0 kq l0 a3 J y D = some r) ∧ Aside0 (kq ≤ k) ∧ Aside0 (Kd.R jJ 129 w' w.heap.size (fun k_ => k_ ≠ B) a9 a3) ∧ Aside0 (w'.heap[B]? = some (.cells #[.int .i64 y, .int .i64 D] 129 (0, 0))) ∧ Aside0 (Below w.heap.size w w'))
   case atStart => exact ⟨(d0), (1), (0), (1), rq, H', ⟨Nat.le_refl _⟩, ⟨rU (Kd.vU (Kd.wK (p := ⟨B, 1, none⟩) (Kd.wK (p := ⟨B, 0, none⟩) (Kd.vU a4.out (fun k_ hk => (⟨hk, hk.2⟩ : _ ∧ k_ ≠ B))) (fun _ hk => hk.2) (.int .i64 0)) (fun _ hk => hk.2) (.int .i64 1)) (fun _ hk => hk.1.2))⟩, ⟨by (with_reducible repeat first | apply vm | apply vn | apply vl); refine vt (cs := #[.int .i64 0, .int .i64 0]) ?_ 1 _ rfl; (with_reducible repeat first | apply vm | apply vn | apply vl); refine vt (cs := #[.int .i64 0, .int .i64 0]) ?_ 0 _ rfl; (with_reducible repeat first | apply vm | apply vn | apply vl); exact u.out⟩, ⟨bl⟩⟩
   case round =>
    clear H'
    obtain ⟨a3, J, y, D, rfl, HA, a6, z, u, HB⟩ := hrel
    cases gk with
    | zero => exact absurd HA.out (by simp [wJ.l0])
    | succ k1 =>
     have H := HA.out
     clear HA
     simp only [wJ.l0] at H
     rcases iL H with H1 | H1 <;> clear H <;> obtain ⟨H, m2⟩ := H1
     ·obtain ⟨Z, b1⟩ : ∃ j_ : Int, (wrap64 (J - D)) = j_ := ⟨_, rfl⟩
      replace H : (if 0 ≤ (Z) then (wJ.l1 k1 l0 a3 J l0 (l0.length : Int) 0 (shl .i64 y (Z)) J) else (none)) = some r := by first | (rw [b1] at H; exact H) | (simp only [b1] at H ⊢; exact H)
      have j9 : (IntKind.i64.wrap (J - D)) = Z := (xS _).trans b1
      by_cases c10 : 0 ≤ (Z)
      ·rw [if_pos c10] at H
       have k0 := eq_true c10
       have k3 := decide_eq_true c10
       clear c10
       obtain ⟨Y, a5⟩ : ∃ j_ : Int, (shl .i64 y (Z)) = j_ := ⟨_, rfl⟩
       replace H : (wJ.l1 k1 l0 a3 J l0 (l0.length : Int) 0 Y J) = some r := by first | (rw [a5] at H; exact H) | (simp only [a5] at H ⊢; exact H)
       have b4 : (IntKind.i64.wrap (y * 2 ^ min (Z).toNat 64)) = Y := a5
       have b5 : (Z) ≤ 64 → (IntKind.i64.wrap (y * 2 ^ (Z).toNat)) = Y := zP a5
       have j3 : (wrap64 (y * 2 ^ min (Z).toNat 64)) = Y := (xS _).symm.trans b4
       have j4 : (Z) ≤ 64 → (wrap64 (y * 2 ^ (Z).toNat)) = Y := fun h_ => (xS _).symm.trans (b5 h_)
       have H' := aE H
       clear H
       obtain ⟨e4, e5, e6, e7⟩ := yM u.out
       go_wp2
       go_loopg [27] k1 (fun kq k4 w' => ∃ (I : List (z6)) (d : Int) (q : Int) (s : Int), k4 = .int .i64 d ∧ Aside0 (wJ.l1 kq l0 I J l0 (l0.length : Int) d q s = some r) ∧ Aside0 (kq ≤ k1) ∧ Aside0 (Kd.R jJ 129 w' w.heap.size (fun k_ => k_ ≠ B) a9 I) ∧ Aside0 (w'.heap[B]? = some (.cells #[.int .i64 q, .int .i64 s] 129 (0, 0))) ∧ Aside0 (Below w.heap.size w w'))
       case atStart => exact ⟨(a3), (0), (Y), (J), rq, H', ⟨Nat.le_refl _⟩, ⟨rU (Kd.vU (Kd.wK (p := ⟨B, 1, none⟩) (Kd.wK (p := ⟨B, 0, none⟩) (Kd.vU z.out (fun k_ hk => (⟨hk, hk⟩ : _ ∧ k_ ≠ B))) (fun _ hk => hk.2) (.int .i64 Y)) (fun _ hk => hk.2) (.int .i64 J)) (fun _ hk => hk.1))⟩, ⟨by (with_reducible repeat first | apply vm | apply vn | apply vl); refine vt (cs := #[.int .i64 Y, .int .i64 D]) ?_ 1 _ rfl; (with_reducible repeat first | apply vm | apply vn | apply vl); refine vt (cs := #[.int .i64 y, .int .i64 D]) ?_ 0 _ rfl; (with_reducible repeat first | apply vm | apply vn | apply vl); exact u.out⟩, ⟨bl⟩⟩
       case round =>
        clear H'
        obtain ⟨I, d, q, s, rfl, HA, a7, z, u, HB⟩ := hrel
        cases gk with
        | zero => exact absurd HA.out (by simp [wJ.l1])
        | succ k2 =>
         have H := HA.out
         clear HA
         simp only [wJ.l1] at H
         rcases iL H with H1 | H1 <;> clear H <;> obtain ⟨H, k5⟩ := H1
         ·by_cases b6 : 0 ≤ d
          ·rw [if_pos b6] at H
           have k6 := decide_eq_true b6
           clear b6
           by_cases b7 : d < (l0.length : Int)
           ·rw [if_pos b7] at H
            have k7 := decide_eq_true b7
            clear b7
            rcases iE H with H1 | H1 <;> clear H <;> obtain ⟨H, k8, k9, m4⟩ := H1
            ·by_cases b8 : d < (I.length : Int)
             ·rw [if_pos b8] at H
              have l2 := decide_eq_true b8
              clear b8
              obtain ⟨b2, hy_⟩ : ∃ y_ : List (z6), y_ = (I.set (d : Int).toNat (⟨q, s⟩ : z6)) := ⟨_, rfl⟩
              replace H : (wJ.l1 k2 l0 b2 J l0 (l0.length : Int) (wrap64 (d + 1)) (wrap64 (q + 1)) s) = some r := rh
              have d4 := aE hy_
              clear hy_
              have H' := aE H
              clear H
              have a0 : 0 ≤ (d : Int) := dt
              have a1 : d < (l0.length : Int) := dt
              obtain ⟨d5, b3, L, M, O, T⟩ := xr e3.out d a0 a1
              cases b3
              replace L := hcB HB.out L
              replace M := hcB HB.out M
              replace O := hcB HB.out O
              replace T := hcB HB.out T
              replace a0 := eq_true a0
              replace a1 := eq_true a1
              go_wp2_with (first | ((with_reducible refine gd 7 rfl ?_); refine bx 7 #[.int .i64 0, .int .i64 0, .int .i64 0, .int .i64 0] 105 rfl rfl ?_; intro E hg l3 hbox hb; have n_ := aC (Kd.wg (rU z.out) hb) (aC (vp (bU u.out) hb) (aC (bs hb) (aC hbox (aC (gz hg) (aC (gz hg) (aC (gn hg (bU u.out)) (aE (gm hg (bU u.out))))))))); clear z u HB; obtain ⟨z, u, HB, G, d6, d7, x, X⟩ := n_; clear hb hbox hg; have l4 := X.out; have l5 := x.out; obtain ⟨e8, e9, f4, f5, f6, f7, f8, f9⟩ := xP G.out) | ((with_reducible refine zM (t := 105) (p := 7) rfl ?_); refine zz (t := 105) (p := 7) (v := ?vo_w22) (w1 := ((((l3.setCell ⟨E, 0, none⟩ (.int .i64 ((vk l0 d).f0))).setCell ⟨E, 1, none⟩ (.int .i64 ((vk l0 d).f1))).setCell ⟨E, 2, none⟩ (.int .i64 ((vk l0 d).f2))).setCell ⟨E, 3, none⟩ (.int .i64 ((vk l0 d).f3)))) ?hg ?ho ?hn ?hr ?_; (case ho => rfl); (case hg => rfl); (case hn => rfl); (case hr => first | (go_simp; done) | (go_simp; rfl)); intro a2 hw; have n_ := aC (show Kd.R jJ 129 a2 w.heap.size (fun k_ => k_ ≠ B) a9 I from (by rw [hw]; exact (rU (Kd.vU (Kd.wK (p := ⟨E, 3, none⟩) (Kd.wK (p := ⟨E, 2, none⟩) (Kd.wK (p := ⟨E, 1, none⟩) (Kd.wK (p := ⟨E, 0, none⟩) (Kd.xH z.out G.out (by decide)) (fun _ hk => hk.2) (.int .i64 ((vk l0 d).f0))) (fun _ hk => hk.2) (.int .i64 ((vk l0 d).f1))) (fun _ hk => hk.2) (.int .i64 ((vk l0 d).f2))) (fun _ hk => hk.2) (.int .i64 ((vk l0 d).f3))) (fun _ hk => hk.1))))) (aC (show a2.heap[B]? = some (.cells #[.int .i64 q, .int .i64 s] 129 (0, 0)) from (by rw [hw]; exact (by (with_reducible repeat first | apply vm | apply vn | apply vl); refine wk ?_ x.out _; (with_reducible repeat first | apply vm | apply vn | apply vl); refine wk ?_ x.out _; (with_reducible repeat first | apply vm | apply vn | apply vl); refine wk ?_ x.out _; (with_reducible repeat first | apply vm | apply vn | apply vl); refine wk ?_ x.out _; (with_reducible repeat first | apply vm | apply vn | apply vl); exact u.out))) (aC (show a2.heap[E]? = some (.cells #[.int .i64 ((vk l0 d).f0), .int .i64 ((vk l0 d).f1), .int .i64 ((vk l0 d).f2), .int .i64 ((vk l0 d).f3)] 105 (0, 0)) from (by rw [hw]; exact (by (with_reducible repeat first | apply vm | apply vn | apply vl); refine vt (cs := #[.int .i64 ((vk l0 d).f0), .int .i64 ((vk l0 d).f1), .int .i64 ((vk l0 d).f2), .int .i64 0]) ?_ 3 _ rfl; (with_reducible repeat first | apply vm | apply vn | apply vl); refine vt (cs := #[.int .i64 ((vk l0 d).f0), .int .i64 ((vk l0 d).f1), .int .i64 0, .int .i64 0]) ?_ 2 _ rfl; (with_reducible repeat first | apply vm | apply vn | apply vl); refine vt (cs := #[.int .i64 ((vk l0 d).f0), .int .i64 0, .int .i64 0, .int .i64 0]) ?_ 1 _ rfl; (with_reducible repeat first | apply vm | apply vn | apply vl); refine vt (cs := #[.int .i64 0, .int .i64 0, .int .i64 0, .int .i64 0]) ?_ 0 _ rfl; (with_reducible repeat first | apply vm | apply vn | apply vl); exact G.out))) (aE (show Below w.heap.size w a2 from (by rw [hw]; exact bl))))); clear hw z u G HB; obtain ⟨z, u, G, HB⟩ := n_; obtain ⟨g0, g1, g2, g3, g4, g5, g6, g7⟩ := xP G.out; obtain ⟨g8, g9, h3, h4⟩ := yM u.out; have d8 : 0 ≤ (d : Int) := dt; have d9 : (d : Int) < ((I.length : Int) : Int) := dt; obtain ⟨go18, d1, d2, d3, gl18, cl18, HG18⟩ := Kd.R_form z.out (by omega); (first | cases d2 | (injection d2 with ea_ en_ ec_; (first | subst ea_ | (injection ea_ with ea_; subst ea_)); subst ec_; clear en_)); have GB18 := aE d3; have GG18 := aE HG18; clear d3 gl18 HG18; obtain ⟨ce18, hcl18, hM18, hcc18, hfr18⟩ := Kd.R_elem z.out z129 (d : Int) d8 d9; obtain rfl := qO hM18; have j5 : a2.cell? ⟨go18, (d : Int).toNat * 2, none⟩ = some (.int .i64 ((yp I d).f0)) := hcc18 0 _ rfl; have j6 : a2.cell? ⟨go18, (d : Int).toNat * 2 + 1, none⟩ = some (.int .i64 ((yp I d).f1)) := hcc18 1 _ rfl; have hf18_0 : a2.frozen? ⟨go18, (d : Int).toNat * 2, none⟩ = false := hfr18 0; have hf18_1 : a2.frozen? ⟨go18, (d : Int).toNat * 2 + 1, none⟩ = false := hfr18 1; clear hcl18 hcc18 hfr18 hM18; replace d8 := eq_true d8; replace d9 := eq_true d9; have HX25 := aE (show Kd.R jJ 129 a2 w.heap.size (fun k_ => k_ ≠ B) (.slice (some ⟨go18, 0, none⟩) I.length d1) I from (rU z.out)); obtain ⟨ce25, hcl25, hM25, hcc25, hfr25⟩ := Kd.R_elem HX25.out z129 (d : Int) (dt) (by have h_ : (d : Int) < ((I.length : Int) : Int) := dt; first | exact h_ | (have e_ := (Kd.R_reads' z.out).1; omega) | simpa using h_); obtain rfl := qO hM25; have HP25 := Kd.R_seg HX25.out (d : Int) (dt) (by have h_ : (d : Int) < ((I.length : Int) : Int) := dt; first | exact h_ | (have e_ := (Kd.R_reads' z.out).1; omega) | simpa using h_) (seg := [.int .i64 q, .int .i64 s]) (j := 0) hcl25 hcc25 (show 2 ≤ 2 from by decide) (x' := (⟨q, s⟩ : z6)) (k129_mkM _ _ _ (⟨q, s⟩ : z6) ) (fun _ hk => hk); have b9 := hcc25 0 _ rfl; (try simp only [show (jJ).sz = 2 from rfl, Nat.mul_one, Nat.add_zero] at b9); have hf25_0 := hfr25 0; (try simp only [show (jJ).sz = 2 from rfl, Nat.mul_one, Nat.add_zero] at hf25_0); have c1 := hcc25 1 _ rfl; (try simp only [show (jJ).sz = 2 from rfl, Nat.mul_one, Nat.add_zero] at c1); have hf25_1 := hfr25 1; (try simp only [show (jJ).sz = 2 from rfl, Nat.mul_one, Nat.add_zero] at hf25_1); clear hcl25 hcc25 hfr25 hM25) | ((with_reducible refine zM (t := 129) (p := 39) rfl ?_); refine zz (t := 129) (p := 39) (v := ?vo_w26) (w1 := ((a2.setCell ⟨go18, (d : Int).toNat * 2, none⟩ (.int .i64 q)).setCell ⟨go18, (d : Int).toNat * 2 + 1, none⟩ (.int .i64 s))) ?hg ?ho ?hn ?hr ?_; (case ho => rfl); (case hg => rfl); (case hn => rfl); (case hr => first | (go_simp; done) | (go_simp; rfl)); intro e0 hw; have hg : a2.grownBy e0 (some go18) := (by rw [hw]; exact HP25.2); have hp_ : Kd.R jJ 129 e0 w.heap.size (fun k_ => k_ ≠ B) (.slice (some ⟨go18, 0, none⟩) I.length d1) b2 := (by rw [hw, d4.out]; exact HP25.1); clear HP25; have n_ := aC hp_ (aC (xz (bU u.out) hg (Kd.R_away z.out (fun _ hk => hk))) (aC (xz (g := E) (o := .cells #[.int .i64 ((vk l0 d).f0), .int .i64 ((vk l0 d).f1), .int .i64 ((vk l0 d).f2), .int .i64 ((vk l0 d).f3)] 105 (0, 0)) (bU G.out) hg (Kd.ja z.out G.out (by decide))) (aE ((by rw [hw]; exact vW (vW (HB.out) GB18.out) GB18.out : Below w.heap.size w e0))))); clear z u G HB; obtain ⟨z, u, G, HB⟩ := n_; clear hg hw hp_; obtain ⟨h5, h6, h7, h8⟩ := yM u.out))
              go_roundg k2
              case measure => have := a6.out; have := a7.out; omega
              case rel => exact ⟨(b2), (wrap64 (d + 1)), (wrap64 (q + 1)), (s), rq, H', ⟨by have := a6.out; have := a7.out; omega⟩, ⟨rU (Kd.vU (Kd.wK (p := ⟨B, 0, none⟩) (Kd.vU z.out (fun k_ hk => (⟨hk, hk⟩ : _ ∧ k_ ≠ B))) (fun _ hk => hk.2) (.int .i64 (wrap64 (q + 1)))) (fun _ hk => hk.1))⟩, ⟨by (with_reducible repeat first | apply vm | apply vn | apply vl); refine vt (cs := #[.int .i64 q, .int .i64 s]) ?_ 0 _ rfl; (with_reducible repeat first | apply vm | apply vn | apply vl); exact u.out⟩, ⟨bl⟩⟩
             ·rw [if_neg b8] at H
              exact nB H
            ·have H' := aE H
             clear H
             have a0 : 0 ≤ (d : Int) := dt
             have a1 : d < (l0.length : Int) := dt
             obtain ⟨d5, b3, L, M, O, T⟩ := xr e3.out d a0 a1
             cases b3
             replace L := hcB HB.out L
             replace M := hcB HB.out M
             replace O := hcB HB.out O
             replace T := hcB HB.out T
             replace a0 := eq_true a0
             replace a1 := eq_true a1
             go_wp2_with (first | ((with_reducible refine gd 7 rfl ?_); refine bx 7 #[.int .i64 0, .int .i64 0, .int .i64 0, .int .i64 0] 105 rfl rfl ?_; intro E hg m5 hbox hb; have n_ := aC (Kd.wg (rU z.out) hb) (aC (vp (bU u.out) hb) (aC (bs hb) (aC hbox (aC (gz hg) (aC (gz hg) (aC (gn hg (bU u.out)) (aE (gm hg (bU u.out))))))))); clear z u HB; obtain ⟨z, u, HB, G, d6, d7, x, X⟩ := n_; clear hb hbox hg; have l6 := X.out; have l7 := x.out; obtain ⟨h9, i0, i1, i2, i3, i4, i5, i6⟩ := xP G.out))
             go_roundg k2
             case measure => have := a6.out; have := a7.out; omega
             case rel => exact ⟨(I), (wrap64 (d + 1)), (q), (s), rq, H', ⟨by have := a6.out; have := a7.out; omega⟩, ⟨rU (Kd.vU (Kd.wK (p := ⟨E, 3, none⟩) (Kd.wK (p := ⟨E, 2, none⟩) (Kd.wK (p := ⟨E, 1, none⟩) (Kd.wK (p := ⟨E, 0, none⟩) (Kd.xH z.out G.out (by decide)) (fun _ hk => hk.2) (.int .i64 ((vk l0 d).f0))) (fun _ hk => hk.2) (.int .i64 ((vk l0 d).f1))) (fun _ hk => hk.2) (.int .i64 ((vk l0 d).f2))) (fun _ hk => hk.2) (.int .i64 ((vk l0 d).f3))) (fun _ hk => hk.1))⟩, ⟨by (with_reducible repeat first | apply vm | apply vn | apply vl); refine wk ?_ x.out _; (with_reducible repeat first | apply vm | apply vn | apply vl); refine wk ?_ x.out _; (with_reducible repeat first | apply vm | apply vn | apply vl); refine wk ?_ x.out _; (with_reducible repeat first | apply vm | apply vn | apply vl); refine wk ?_ x.out _; (with_reducible repeat first | apply vm | apply vn | apply vl); exact u.out⟩, ⟨bl⟩⟩
           ·rw [if_neg b7] at H
            exact nB H
          ·rw [if_neg b6] at H
           exact nB H
         ·have H' := aE H
          clear H
          go_wp2
          go_roundg k2
          case measure => have := a6.out; have := a7.out; omega
          case rel => exact ⟨(I), (wrap64 (J + 1)), (q), (s), rq, H', ⟨by have := a6.out; have := a7.out; omega⟩, ⟨rU z.out⟩, ⟨bU u.out⟩, ⟨bl⟩⟩
      ·rw [if_neg c10] at H
       exact nB H
     ·obtain rfl := Option.some.inj H
      go_wp2
      go_ret
      exact ⟨_, re, rU (Kd.vU z.out (fun _ hk => trivial)), bl⟩
  ·rw [if_neg c3] at H
   exact nB H
 ·rw [if_neg c2] at H
  exact nB H
def xI.f (k : Nat) (l0 : List (wb)) (e : Bool) (j : Int) : Option (List Int × Int) := (xi.f k l0).bind fun q => (if q = true then ((wJ.f k l0).bind fun r => ((ya.f k l0 r e j).bind fun d => (some (d.1, d.2)))) else (some (([] : List Int), 20)))
theorem xI.mono : ∀ a0 a1 a2 k, vK (xI.f k a0 a1 a2) (xI.f (k + 1) a0 a1 a2) := by
 intro a0 a1 a2 k
 unfold xI.f
 repeat' first
   | (with_reducible exact xi.mono _ _)
   | (with_reducible exact wJ.mono _ _)
   | (with_reducible exact ya.mono _ _ _ _ _)
   | (with_reducible first | exact vK.refl _ | exact vK.none _ | apply vK.ite | apply vK.bind | intro)
def xI.T3 : Bool × List (List Nat × List Nat) := (true, [([], []), ([], []), ([1], [1]), ([], []), ([0, 2, 3, 2], [0, 2, 3]), ([4], [4]), ([4], [4]), ([5, 4, 0, 1, 2, 3, 4, 5, 6], [5]), ([6, 7, 0, 1, 2, 3, 4, 5, 6, 7], [6])])
def xI.B3 : List Nat := [0, 0, 2, 0, 15, 31, 31, 127, 255]
theorem xI.tab3 : zi .any (opsOf Tryz.f36 3) = xI.T3 := by kernel_rfl
theorem xI.bits3 : yv xI.T3.2 xI.B3 = true := by kernel_rfl
theorem xI.calls (k : Nat) (A0 : Option Addr) (c0 : Nat) (l0 : List (wb)) (q : Bool) (r : Int) (r1 : List Int) (r2 : Int) (w : World) (hr0 : Kd.C yj w A0 l0.length l0) (G : l0.length ≤ c0) (h : xI.f k l0 q r = some (r1, r2)) :
  Calls Tryz.prog 36 #[.slice A0 l0.length c0, .agg #[.bool q, .int .i64 r]] w fun e w' => ∃ I : Value, e = .returned (.tuple #[I, .int .i64 r2]) ∧ Kd.R (Kd.int .u8) 5 w' w.heap.size (fun _ => True) I r1 ∧ Below w.heap.size w w' := by
 have hu69 := Tryz.underlying69
 have x := aE hr0
 have y := aE G
 clear hr0 G
 have HB := bR w
 have H := h
 unfold xI.f at H
 clear h
 obtain ⟨J, A3, H⟩ := oB H
 try dsimp only at H
 by_cases c4 : J = true
 ·subst c4
  rw [if_pos rfl] at H
  obtain ⟨t, A5, H⟩ := oB H
  try dsimp only at H
  obtain ⟨⟨L, M⟩, A6, H⟩ := oB H
  try dsimp only at H
  simp only [Option.some.injEq, Prod.mk.injEq] at H
  obtain ⟨rfl, rfl⟩ := H
  go_enter Tryz.func36, Tryz.ntmps36
  try go_wp2_with (first | ((with_reducible refine gd 3 rfl ?_); refine bx 3 #[.bool q, .int .i64 r] 69 rfl rfl ?_; intro s hg w7 hbox hb; have n_ := aC (bs hb) (aC hbox (aC (gz hg) (aE (gz hg)))); clear HB; obtain ⟨HB, d, B, D⟩ := n_; clear hb hbox hg) | ((with_reducible refine gf 56 rfl ?_); refine gL (some 7) rfl rfl Tryz.func56 rfl #[.slice A0 l0.length c0] rfl ?_; (with_reducible refine (xi.calls k _ _ l0 true _ ?side1 ?side2 A3.out).mono ?_); (case side1 => exact cU (Kd.wz x.out HB.out)); (case side2 => exact y.out); rintro e w8 ⟨rfl, hb⟩; refine ⟨_, rfl, ?_⟩; have n_ := aC (vp (bU d.out) hb) (aE (bs hb)); clear d HB; obtain ⟨d, HB⟩ := n_))
  have n_ := aC (vn d.out) (aE (vy HB.out))
  clear d HB
  obtain ⟨d, HB⟩ := n_
  refine st 9 (fun w' => w'.cell? ⟨s, 0, none⟩ = some (.bool q) ∧ w'.cell? ⟨s, 1, none⟩ = some (.int .i64 r)) [] (bv 9 0) xI.tab3 xI.bits3 ⟨jB d.out, jz d.out⟩ (fun hHeld HT_ HW_ => ?_)
  generalize w8.drew = w9 at d HB hHeld ⊢
  refine pu 0 9 (bv 9 1) HT_ rfl rfl ?_
  refine pu 1 10 (bv 9 3) HT_ rfl rfl ?_
  refine tk 3 12 (bv 9 11) HT_ HW_ hHeld rfl rfl (by rintro w' ⟨s0, s1⟩; exact yl) ?_
  refine yA (i := 2) (N := some 11) (bv 9 15) rfl rfl (xl HT_.out (by kernel_rfl)) (by decide) (fun K hK => ?_)
  refine gK Tryz.func58 rfl #[.slice A0 l0.length c0] rfl rfl ?_
  with_reducible refine (wJ.calls k _ _ l0 t _ ?side1 ?side2 A5.out).mono ?_
  (case side1 => exact cU (Kd.wz x.out HB.out))
  (case side2 => exact y.out)
  rintro e a0 ⟨Y, rfl, u, hb⟩
  refine ⟨_, rfl, ?_⟩
  have n_ := aC (Kd.vS u bz) (aC (vp (bU d.out) hb) (aE (bs hb)))
  clear d HB
  obtain ⟨j, d, HB⟩ := n_
  (try clear hb)
  (try clear X)
  (try clear hk)
  (try clear hi)
  (try clear u)
  obtain ⟨O, T, z⟩ := Kd.vY j.out
  (first | subst z | (injection z with f1_ f2_ f3_; have f4_ := f1_.symm; have f5_ := f3_.symm; clear f1_ f2_ f3_; subst f4_; subst f5_))
  refine hK.out _ _ ⟨jB d.out, jz d.out⟩ (fun hHeld => ?_)
  clear hK K
  refine nm (some 11) ?_
  refine yA (i := 4) (N := some 13) (bv 9 31) rfl rfl (xl HT_.out (by kernel_rfl)) (by decide) (fun K hK => ?_)
  refine gK Tryz.func57 rfl #[.slice A0 l0.length c0, .slice O t.length T, .agg #[.bool q, .int .i64 r]] rfl rfl ?_
  with_reducible refine (ya.calls k _ _ l0 _ _ t q r L M _ ?side1 ?side2 ?side3 ?side4 A6.out).mono ?_
  (case side1 => exact cU (Kd.wz x.out HB.out))
  (case side2 => exact y.out)
  (case side3 => exact cU (Kd.R_reads' j.out).2.2)
  (case side4 => exact (Kd.R_reads' j.out).2.1)
  rintro e a1 ⟨Z, rfl, u, hb⟩
  refine ⟨_, rfl, ?_⟩
  have n_ := aC (Kd.wg (rU j.out) hb) (aC (Kd.vS u bz) (aC (vp (bU d.out) hb) (aE (bs hb))))
  clear j d HB
  obtain ⟨j, E, d, HB⟩ := n_
  (try clear hb)
  (try clear X)
  (try clear hk)
  (try clear hi)
  (try clear u)
  refine hK.out _ _ ⟨jB d.out, jz d.out⟩ (fun hHeld => ?_)
  clear hK K
  refine nm (some 13) ?_
  refine pu 5 14 (bv 9 63) HT_ rfl rfl ?_
  refine pu 6 15 (bv 9 127) HT_ rfl rfl ?_
  refine pu 7 4 (bv 9 255) HT_ rfl rfl ?_
  refine pu 8 5 (bv 9 511) HT_ rfl rfl ?_
  refine zd (xZ HT_.out (by kernel_rfl)) ?_
  try go_wp2
  go_ret2
  exact ⟨_, re, rU E.out, bl⟩
 ·replace c4 := Bool.eq_false_iff.mpr c4
  subst c4
  rw [if_neg Bool.false_ne_true] at H
  simp only [Option.some.injEq, Prod.mk.injEq] at H
  obtain ⟨rfl, rfl⟩ := H
  go_enter Tryz.func36, Tryz.ntmps36
  go_wp2_with (first | ((with_reducible refine gd 3 rfl ?_); refine bx 3 #[.bool q, .int .i64 r] 69 rfl rfl ?_; intro s hg a2 hbox hb; have n_ := aC (bs hb) (aC hbox (aC (gz hg) (aE (gz hg)))); clear HB; obtain ⟨HB, d, B, D⟩ := n_; clear hb hbox hg) | ((with_reducible refine gf 56 rfl ?_); refine gL (some 7) rfl rfl Tryz.func56 rfl #[.slice A0 l0.length c0] rfl ?_; (with_reducible refine (xi.calls k _ _ l0 false _ ?side1 ?side2 A3.out).mono ?_); (case side1 => exact cU (Kd.wz x.out HB.out)); (case side2 => exact y.out); rintro e a3 ⟨rfl, hb⟩; refine ⟨_, rfl, ?_⟩; have n_ := aC (vp (bU d.out) hb) (aE (bs hb)); clear d HB; obtain ⟨d, HB⟩ := n_))
  go_ret2
  exact ⟨_, re, by first | exact Kd.yu _ _ _ _ _ | exact Kd.yR _ _ _ _ _ | exact Kd.yS _ _ _ _ _ | exact Kd.yP _ _ _ _ _ | exact Kd.yV _ _ _ _ _, bl⟩
def zb.f (a0 : Int) : Option ((List (wb))) := if a0 = 0 then (some (([(⟨2, 2, 0, 0⟩ : wb), (⟨2, 3, 4, 0⟩ : wb), (⟨2, 4, 12, 0⟩ : wb), (⟨2, 6, 28, 0⟩ : wb)] : List (wb)))) else (some (([(⟨1, 1, 0, 0⟩ : wb), (⟨2, 1, 2, 0⟩ : wb), (⟨3, 2, 4, 0⟩ : wb), (⟨3, 6, 8, 0⟩ : wb)] : List (wb))))
theorem zb.calls (a0 : Int) (r : List (wb)) (w : World) (h : zb.f a0 = some r) :
  Calls Tryz.prog 37 #[.int .i64 a0] w fun e w' => ∃ u : Value, e = .returned (u) ∧ Kd.R yj 105 w' w.heap.size (fun _ => True) u r ∧ Below w.heap.size w w' := by
 have hu105 := Tryz.underlying105
 have HB := bR w
 have H := h
 unfold zb.f at H
 clear h
 rcases iE H with H1 | H1 <;> clear H <;> obtain ⟨H, z, B, c2⟩ := H1
 ·obtain ⟨x, hy_⟩ : ∃ y_ : List (wb), y_ = (([(⟨2, 2, 0, 0⟩ : wb), (⟨2, 3, 4, 0⟩ : wb), (⟨2, 4, 12, 0⟩ : wb), (⟨2, 6, 28, 0⟩ : wb)] : List (wb))) := ⟨_, rfl⟩
  replace H : (some x) = some r := rh
  have d := aE hy_
  clear hy_
  obtain rfl := Option.some.inj H
  go_enter Tryz.func37, Tryz.ntmps37
  go_wp2_with (first | ((with_reducible refine gd 9 rfl ?_); refine Kd.zZ yj _ 105 ?hg (N := 9) ?hd (xs := ([(⟨2, 2, 0, 0⟩ : wb), (⟨2, 3, 4, 0⟩ : wb), (⟨2, 4, 12, 0⟩ : wb), (⟨2, 6, 28, 0⟩ : wb)] : List (wb))) (inner := [.int .i64 2, .int .i64 2, .int .i64 0, .int .i64 0, .int .i64 2, .int .i64 3, .int .i64 4, .int .i64 0, .int .i64 2, .int .i64 4, .int .i64 12, .int .i64 0, .int .i64 2, .int .i64 6, .int .i64 28, .int .i64 0]) (ok := fun _ => True) (okp := fun _ => True) ?hr ?hp (fun _ hk => hk) trivial (Below.refl _ _) (Nat.le_refl _) (by simp) ?_; (case hd => rfl); (case hg => rfl); (case hr => first | (go_simp; done) | (go_simp; rfl)); (case hp => exact (xe.c4 (show Kd.M yj _ _ _ (⟨2, 2, 0, 0⟩ : wb) [.int .i64 2, .int .i64 2, .int .i64 0, .int .i64 0] from (xG _ _ _ (⟨2, 2, 0, 0⟩ : wb) )) (xe.c4 (show Kd.M yj _ _ _ (⟨2, 3, 4, 0⟩ : wb) [.int .i64 2, .int .i64 3, .int .i64 4, .int .i64 0] from (xG _ _ _ (⟨2, 3, 4, 0⟩ : wb) )) (xe.c4 (show Kd.M yj _ _ _ (⟨2, 4, 12, 0⟩ : wb) [.int .i64 2, .int .i64 4, .int .i64 12, .int .i64 0] from (xG _ _ _ (⟨2, 4, 12, 0⟩ : wb) )) (xe.c4 (show Kd.M yj _ _ _ (⟨2, 6, 28, 0⟩ : wb) [.int .i64 2, .int .i64 6, .int .i64 28, .int .i64 0] from (xG _ _ _ (⟨2, 6, 28, 0⟩ : wb) )) (xe.none _ _)))))); intro D w3 j hb hg_ hnew_; clear hg_ hnew_; (first | rw [← d.out] at j | (simp only [Int.reduceToNat] at j; rw [← d.out] at j)); have n_ := aC (Kd.vS j bz) (aE (bs hb)); clear HB; obtain ⟨s, HB⟩ := n_; clear hb j))
  go_ret
  exact ⟨_, re, rU s.out, bl⟩
 ·obtain ⟨y, hy_⟩ : ∃ y_ : List (wb), y_ = (([(⟨1, 1, 0, 0⟩ : wb), (⟨2, 1, 2, 0⟩ : wb), (⟨3, 2, 4, 0⟩ : wb), (⟨3, 6, 8, 0⟩ : wb)] : List (wb))) := ⟨_, rfl⟩
  replace H : (some y) = some r := rh
  have k := aE hy_
  clear hy_
  obtain rfl := Option.some.inj H
  go_enter Tryz.func37, Tryz.ntmps37
  go_wp2_with (first | ((with_reducible refine gd 14 rfl ?_); refine Kd.zZ yj _ 105 ?hg (N := 14) ?hd (xs := ([(⟨1, 1, 0, 0⟩ : wb), (⟨2, 1, 2, 0⟩ : wb), (⟨3, 2, 4, 0⟩ : wb), (⟨3, 6, 8, 0⟩ : wb)] : List (wb))) (inner := [.int .i64 1, .int .i64 1, .int .i64 0, .int .i64 0, .int .i64 2, .int .i64 1, .int .i64 2, .int .i64 0, .int .i64 3, .int .i64 2, .int .i64 4, .int .i64 0, .int .i64 3, .int .i64 6, .int .i64 8, .int .i64 0]) (ok := fun _ => True) (okp := fun _ => True) ?hr ?hp (fun _ hk => hk) trivial (Below.refl _ _) (Nat.le_refl _) (by simp) ?_; (case hd => rfl); (case hg => rfl); (case hr => first | (go_simp; done) | (go_simp; rfl)); (case hp => exact (xe.c4 (show Kd.M yj _ _ _ (⟨1, 1, 0, 0⟩ : wb) [.int .i64 1, .int .i64 1, .int .i64 0, .int .i64 0] from (xG _ _ _ (⟨1, 1, 0, 0⟩ : wb) )) (xe.c4 (show Kd.M yj _ _ _ (⟨2, 1, 2, 0⟩ : wb) [.int .i64 2, .int .i64 1, .int .i64 2, .int .i64 0] from (xG _ _ _ (⟨2, 1, 2, 0⟩ : wb) )) (xe.c4 (show Kd.M yj _ _ _ (⟨3, 2, 4, 0⟩ : wb) [.int .i64 3, .int .i64 2, .int .i64 4, .int .i64 0] from (xG _ _ _ (⟨3, 2, 4, 0⟩ : wb) )) (xe.c4 (show Kd.M yj _ _ _ (⟨3, 6, 8, 0⟩ : wb) [.int .i64 3, .int .i64 6, .int .i64 8, .int .i64 0] from (xG _ _ _ (⟨3, 6, 8, 0⟩ : wb) )) (xe.none _ _)))))); intro E w5 q hb hg_ hnew_; clear hg_ hnew_; (first | rw [← k.out] at q | (simp only [Int.reduceToNat] at q; rw [← k.out] at q)); have n_ := aC (Kd.vS q bz) (aE (bs hb)); clear HB; obtain ⟨t, HB⟩ := n_; clear hb q))
  go_ret
  exact ⟨_, re, rU t.out, bl⟩
end Go.Proofs.YtknclbodinfbeaaGreatDoor.PRunsBack
