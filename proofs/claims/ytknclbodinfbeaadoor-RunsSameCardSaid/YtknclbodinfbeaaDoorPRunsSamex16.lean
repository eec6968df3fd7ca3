-- printed (wip/tools/myprint.py)
import Derived.Test.YtknclbodinfbeaaDoorPRunsSamex0
import Derived.Test.YtknclbodinfbeaaDoorPRunsSamex15
namespace Go.Proofs.YtknclbodinfbeaaDoor.PRunsSame
open Go.RowKit Go.Proofs.YtknclbodinfbeaaDoorW.PrintWords Go.Proofs.YtknclbodinfbeaaDoorW.PrintLast Go.Proofs.YtknclbodinfbeaaDoorW.PrintMore
attribute [local go_sem] yf yc yD yE xV xU ye yh
set_option linter.unusedVariables false
set_option linter.unusedSimpArgs false
mutual
def vF.j0 : Nat → Int → Bool → List Int → Int → Bool → Option (Int × Int × Int × Bool)
 | 0, _, _, _, _, _ => none
 | k + 1, x1, x10, x1000, x1001, x1002 => if x10 = true then (some (0, 2, x1001, x1002)) else ((yw.f x1000 x1001 x1002).bind fun bt551 => (if x1 > bt551.1 then (some (0, 6, bt551.2.1, bt551.2.2)) else (vF.l0 k 0 x1 0 x1000 bt551.2.1 bt551.2.2)))
def vF.l0 : Nat → Int → Int → Int → List Int → Int → Bool → Option (Int × Int × Int × Bool)
 | 0, _, _, _, _, _, _ => none
 | k + 1, x6, x22, x23, x1000, x1001, x1002 => if x23 < x22 then (if 0 ≤ (wrap64 (Int.tdiv x1001 8)) then (if (wrap64 (Int.tdiv x1001 8)) < (x1000.length : Int) then (if 0 ≤ (wrap64 (7 - (Int.tmod x1001 8))) then (vF.l0 k (wrap64 ((wrap64 (2 * x6)) + (wrap64 (Go.bits .and .u8 (shr .u8 (rd x1000 (wrap64 (Int.tdiv x1001 8))) (wrap64 (7 - (Int.tmod x1001 8)))) 1)))) x22 (wrap64 (x23 + 1)) x1000 (wrap64 (x1001 + 1)) x1002) else (none)) else (none)) else (none)) else (some (x6, 0, x1001, x1002))
end
def vF.f (k : Nat) (s0_0 : List Int) (s0_1 : Int) (s0_2 : Bool) (a1 : Int) : Option (Int × Int × Int × Bool) := (xr.f s0_0 s0_1 s0_2).bind fun bt548 => (if bt548.1 = true then (some (0, 7, bt548.2.1, bt548.2.2)) else (if a1 < 0 then (vF.j0 k a1 true s0_0 bt548.2.1 bt548.2.2) else (vF.j0 k a1 (decide (a1 > 32)) s0_0 bt548.2.1 bt548.2.2)))
theorem vF.wj : ∀ k, (∀ y0 y1 y2 y3 y4, vP (vF.j0 k y0 y1 y2 y3 y4) (vF.j0 (k + 1) y0 y1 y2 y3 y4)) ∧ (∀ y0 y1 y2 y3 y4 y5, vP (vF.l0 k y0 y1 y2 y3 y4 y5) (vF.l0 (k + 1) y0 y1 y2 y3 y4 y5))
 | 0 => ⟨fun _ _ _ _ _ r h => by simp [vF.j0] at h, fun _ _ _ _ _ _ r h => by simp [vF.l0] at h⟩
 | k + 1 => by
  obtain ⟨ih0, ih1⟩ := vF.wj k
  refine ⟨?_, ?_⟩
  ·intro y0 y1 y2 y3 y4
   unfold vF.j0
   repeat' first
   | (with_reducible exact ih0 _ _ _ _ _)
   | (with_reducible exact ih1 _ _ _ _ _ _)
   | (with_reducible first | exact vP.refl _ | exact vP.none _ | apply vP.ite | refine vP.bind ?_ fun _ => ?_)
  ·intro y0 y1 y2 y3 y4 y5
   unfold vF.l0
   repeat' first
   | (with_reducible exact ih0 _ _ _ _ _)
   | (with_reducible exact ih1 _ _ _ _ _ _)
   | (with_reducible first | exact vP.refl _ | exact vP.none _ | apply vP.ite | refine vP.bind ?_ fun _ => ?_)
theorem vF.mono : ∀ a0 a1 a2 a3 k, vP (vF.f k a0 a1 a2 a3) (vF.f (k + 1) a0 a1 a2 a3) := by
 intro a0 a1 a2 a3 k
 obtain ⟨ih0, ih1⟩ := vF.wj k
 unfold vF.f
 repeat' first
   | (with_reducible exact ih0 _ _ _ _ _)
   | (with_reducible exact ih1 _ _ _ _ _ _)
   | (with_reducible first | exact vP.refl _ | exact vP.none _ | apply vP.ite | refine vP.bind ?_ fun _ => ?_)
set_option maxHeartbeats 8000000 in
set_option maxRecDepth 100000 in
theorem vF.calls (k : Nat) (g : Nat) (s0_0 : List Int) (s0_1 : Int) (s0_2 : Bool) (a1 : Int) (r1 : Int) (r2 : Int) (r3 : Int) (r4 : Bool) (w0 w : World) (hI : vo w0 w g s0_0 s0_1 s0_2) (hB : Below w0.heap.size w0 w) (h : vF.f k s0_0 s0_1 s0_2 a1 = some (r1, r2, r3, r4)) :
  Calls Tryd.prog 114 #[.pointer (some ⟨g, 0, none⟩), .int .i64 a1] w fun e w' => e = .returned (.tuple #[.int .i64 r1, .int .i64 r2]) ∧ vo w0 w' g s0_0 r3 r4 ∧ Below w0.heap.size w0 w' ∧ vx w w' g none := by
 have HI0 := Aside0.mk hI
 have HK := Aside0.mk (vx.refl w g none)
 have HL := Aside0.mk hB.size
 clear hI
 have HW0 := Aside0.mk hB.size
 have HB := Aside0.mk hB
 clear hB
 have H := h
 unfold vF.f at H
 clear h
 obtain ⟨⟨t548, t549, t550⟩, A3, H⟩ := oB H
 try dsimp only at H
 by_cases c4 : t548 = true
 ·subst c4
  rw [if_pos rfl] at H
  simp only [Option.some.injEq, Prod.mk.injEq] at H
  obtain ⟨rfl, rfl, rfl, rfl⟩ := H
  go_enter Tryd.func114, Tryd.ntmps114
  go_wp2_with (first | (go_at_call 97; (with_reducible refine (xr.calls g s0_0 s0_1 s0_2 true t549 t550 w0 _ ?side1 ?side2 A3.out).mono ?_); (case side1 => repeat (first | (with_reducible first | exact HI0.out | apply vo.alloc | apply vo.drewN | apply vo.drew | apply vo.xT | apply vo.xR) | exact HI0.out)); (case side2 => repeat (first | (with_reducible first | exact HB.out | apply vZ | apply vM | apply vG | refine wk ?_ (vo.ge HI0.out)) | exact HB.out)); rintro e w5 ⟨rfl, hi, hb, hk⟩; have n_ := aC (vx.trans (by repeat (first | (with_reducible first | exact HK.out | apply vx.yr | apply wl | apply wz | apply wn) | exact HK.out)) hk (.inl rfl)) (aC hb (aE hi)); clear HK HB HI0; obtain ⟨HK, HB, HI0⟩ := n_))
  go_ret2
  exact ⟨re, by repeat (first | (with_reducible first | exact HI0.out | apply vo.alloc | apply vo.drewN | apply vo.drew | apply vo.xT | apply vo.xR) | exact HI0.out), by repeat (first | (with_reducible first | exact HB.out | apply vZ | apply vM | apply vG | refine wk ?_ (vo.ge HI0.out)) | exact HB.out), by repeat (first | (with_reducible first | exact HK.out | apply vx.yr | apply wl | apply wz | apply wn) | exact HK.out)⟩
 ·replace c4 := Bool.eq_false_iff.mpr c4
  subst c4
  rw [if_neg Bool.false_ne_true] at H
  have HC6 := Aside0.mk H
  clear H
  go_enter Tryd.func114, Tryd.ntmps114
  go_upto_region 3 with (first | (go_at_call 97; (with_reducible refine (xr.calls g s0_0 s0_1 s0_2 false t549 t550 w0 _ ?side1 ?side2 A3.out).mono ?_); (case side1 => repeat (first | (with_reducible first | exact HI0.out | apply vo.alloc | apply vo.drewN | apply vo.drew | apply vo.xT | apply vo.xR) | exact HI0.out)); (case side2 => repeat (first | (with_reducible first | exact HB.out | apply vZ | apply vM | apply vG | refine wk ?_ (vo.ge HI0.out)) | exact HB.out)); rintro e w7 ⟨rfl, hi, hb, hk⟩; have n_ := aC (vx.trans (by repeat (first | (with_reducible first | exact HK.out | apply vx.yr | apply wl | apply wz | apply wn) | exact HK.out)) hk (.inl rfl)) (aC hb (aE hi)); clear HK HB HI0; obtain ⟨HK, HB, HI0⟩ := n_))
  (try simp only [Act.put, List.setIfInBounds_toArray, List.set_cons_zero, List.set_cons_succ])
  go_cut [10] (fun v10 wc => ∃ (kq : Nat) (x10_5 : Bool), v10 = .bool x10_5 ∧ Aside0 (vF.j0 kq a1 x10_5 s0_0 t549 t550 = some (r1, r2, r3, r4)) ∧ Aside0 (kq ≤ k) ∧ Aside0 (vo w0 wc g s0_0 t549 t550) ∧ Aside0 (vx w wc g none) ∧ Aside0 (Below w0.heap.size w0 wc))
  case first =>
   have H := HC6.out
   clear HC6
   rcases iL H with H1 | H1 <;> clear H <;> obtain ⟨H, c8b0⟩ := H1
   ·(first | rw [c8b0] | (simp only [xD, zm]; rw [c8b0]) | skip)
    have H' := Aside0.mk H
    clear H
    go_wp2
    go_meet
    case rel => exact ⟨_, (true), rq, H', ⟨by first | omega | exact Nat.le_refl _⟩, ⟨by repeat (first | (with_reducible first | exact HI0.out | apply vo.alloc | apply vo.drewN | apply vo.drew | apply vo.xT | apply vo.xR) | exact HI0.out)⟩, ⟨by repeat (first | (with_reducible first | exact HK.out | apply vx.yr | apply wl | apply wz | apply wn) | exact HK.out)⟩, ⟨by repeat (first | (with_reducible first | exact HB.out | apply vZ | apply vM | apply vG | refine wk ?_ (vo.ge HI0.out)) | exact HB.out)⟩⟩
   ·(first | rw [c8b0] | (simp only [xD, zm]; rw [c8b0]) | skip)
    have H' := Aside0.mk H
    clear H
    go_wp2
    go_meet
    case rel => exact ⟨_, (decide (a1 > 32)), rq, H', ⟨by first | omega | exact Nat.le_refl _⟩, ⟨by repeat (first | (with_reducible first | exact HI0.out | apply vo.alloc | apply vo.drewN | apply vo.drew | apply vo.xT | apply vo.xR) | exact HI0.out)⟩, ⟨by repeat (first | (with_reducible first | exact HK.out | apply vx.yr | apply wl | apply wz | apply wn) | exact HK.out)⟩, ⟨by repeat (first | (with_reducible first | exact HB.out | apply vZ | apply vM | apply vG | refine wk ?_ (vo.ge HI0.out)) | exact HB.out)⟩⟩
  case rest =>
   clear HC6
   obtain ⟨kq, x10_5, rfl, HA, HJ5, HI0, HK, HB⟩ := hcut
   cases kq with
   | zero => exact absurd HA.out (by simp [vF.j0])
   | succ kj5 =>
    have H := HA.out
    clear HA
    simp only [vF.j0] at H
    by_cases c9 : x10_5 = true
    ·subst c9
     rw [if_pos rfl] at H
     simp only [Option.some.injEq, Prod.mk.injEq] at H
     obtain ⟨rfl, rfl, rfl, rfl⟩ := H
     go_wp2
     go_ret2
     exact ⟨re, by repeat (first | (with_reducible first | exact HI0.out | apply vo.alloc | apply vo.drewN | apply vo.drew | apply vo.xT | apply vo.xR) | exact HI0.out), by repeat (first | (with_reducible first | exact HB.out | apply vZ | apply vM | apply vG | refine wk ?_ (vo.ge HI0.out)) | exact HB.out), by repeat (first | (with_reducible first | exact HK.out | apply vx.yr | apply wl | apply wz | apply wn) | exact HK.out)⟩
    ·replace c9 := Bool.eq_false_iff.mpr c9
     subst c9
     rw [if_neg Bool.false_ne_true] at H
     obtain ⟨⟨t551, t552, t553⟩, A10, H⟩ := oB H
     try dsimp only at H
     rcases iL H with H1 | H1 <;> clear H <;> obtain ⟨H, c11b0⟩ := H1
     ·simp only [Option.some.injEq, Prod.mk.injEq] at H
      obtain ⟨rfl, rfl, rfl, rfl⟩ := H
      go_wp2_with (first | (go_at_call 126; (with_reducible refine (yw.calls g s0_0 t549 t550 t551 t552 t553 w0 _ ?side1 ?side2 A10.out).mono ?_); (case side1 => repeat (first | (with_reducible first | exact HI0.out | apply vo.alloc | apply vo.drewN | apply vo.drew | apply vo.xT | apply vo.xR) | exact HI0.out)); (case side2 => repeat (first | (with_reducible first | exact HB.out | apply vZ | apply vM | apply vG | refine wk ?_ (vo.ge HI0.out)) | exact HB.out)); rintro e w12 ⟨rfl, hi, hb, hk⟩; have n_ := aC (vx.trans (by repeat (first | (with_reducible first | exact HK.out | apply vx.yr | apply wl | apply wz | apply wn) | exact HK.out)) hk (.inl rfl)) (aC hb (aE hi)); clear HK HB HI0; obtain ⟨HK, HB, HI0⟩ := n_))
      go_ret2
      exact ⟨re, by repeat (first | (with_reducible first | exact HI0.out | apply vo.alloc | apply vo.drewN | apply vo.drew | apply vo.xT | apply vo.xR) | exact HI0.out), by repeat (first | (with_reducible first | exact HB.out | apply vZ | apply vM | apply vG | refine wk ?_ (vo.ge HI0.out)) | exact HB.out), by repeat (first | (with_reducible first | exact HK.out | apply vx.yr | apply wl | apply wz | apply wn) | exact HK.out)⟩
     ·have H' := Aside0.mk H
      clear H
      go_wp2_with (first | (go_at_call 126; (with_reducible refine (yw.calls g s0_0 t549 t550 t551 t552 t553 w0 _ ?side1 ?side2 A10.out).mono ?_); (case side1 => repeat (first | (with_reducible first | exact HI0.out | apply vo.alloc | apply vo.drewN | apply vo.drew | apply vo.xT | apply vo.xR) | exact HI0.out)); (case side2 => repeat (first | (with_reducible first | exact HB.out | apply vZ | apply vM | apply vG | refine wk ?_ (vo.ge HI0.out)) | exact HB.out)); rintro e w13 ⟨rfl, hi, hb, hk⟩; have n_ := aC (vx.trans (by repeat (first | (with_reducible first | exact HK.out | apply vx.yr | apply wl | apply wz | apply wn) | exact HK.out)) hk (.inl rfl)) (aC hb (aE hi)); clear HK HB HI0; obtain ⟨HK, HB, HI0⟩ := n_))
      go_loopg [6, 23] kj5 (fun kq v6 v23 w' => ∃ (x6_2 : Int) (x23_2 : Int) (x1001_2 : Int), v6 = .int .i64 x6_2 ∧ v23 = .int .i64 x23_2 ∧ Aside0 (vF.l0 kq x6_2 a1 x23_2 s0_0 x1001_2 t553 = some (r1, r2, r3, r4)) ∧ Aside0 (kq ≤ kj5) ∧ Aside0 (vo w0 w' g s0_0 x1001_2 t553) ∧ Aside0 (vx w w' g none) ∧ Aside0 (Below w0.heap.size w0 w'))
      case atStart => exact ⟨(0), (0), (t552), rq, rq, H', ⟨Nat.le_refl _⟩, ⟨by repeat (first | (with_reducible first | exact HI0.out | apply vo.alloc | apply vo.drewN | apply vo.drew | apply vo.xT | apply vo.xR) | exact HI0.out)⟩, ⟨by repeat (first | (with_reducible first | exact HK.out | apply vx.yr | apply wl | apply wz | apply wn) | exact HK.out)⟩, ⟨by repeat (first | (with_reducible first | exact HB.out | apply vZ | apply vM | apply vG | refine wk ?_ (vo.ge HI0.out)) | exact HB.out)⟩⟩
      case round =>
       clear H'
       obtain ⟨x6_2, x23_2, x1001_2, rfl, rfl, HA, HK2, HI0, HK, HB⟩ := hrel
       cases gk with
       | zero => exact absurd HA.out (by simp [vF.l0])
       | succ k2 =>
        have H := HA.out
        clear HA
        simp only [vF.l0] at H
        rcases iL H with H1 | H1 <;> clear H <;> obtain ⟨H, c14b0⟩ := H1
        ·obtain ⟨ji15, hji15⟩ : ∃ j_ : Int, (wrap64 (Int.tdiv x1001_2 8)) = j_ := ⟨_, rfl⟩
         replace H : (if 0 ≤ (ji15) then (if (ji15) < (s0_0.length : Int) then (if 0 ≤ (wrap64 (7 - (Int.tmod x1001_2 8))) then (vF.l0 k2 (wrap64 ((wrap64 (2 * x6_2)) + (wrap64 (Go.bits .and .u8 (shr .u8 (rd s0_0 (ji15)) (wrap64 (7 - (Int.tmod x1001_2 8)))) 1)))) a1 (wrap64 (x23_2 + 1)) s0_0 (wrap64 (x1001_2 + 1)) t553) else (none)) else (none)) else (none)) = some (r1, r2, r3, r4) := by first | (rw [hji15] at H; exact H) | (simp only [hji15] at H ⊢; exact H)
         have hji15w : (IntKind.i64.wrap (Int.tdiv x1001_2 8)) = ji15 := (xD _).trans hji15
         by_cases c16 : 0 ≤ (ji15)
         ·rw [if_pos c16] at H
          have c16b0 := decide_eq_true c16
          clear c16
          by_cases c17 : (ji15) < (s0_0.length : Int)
          ·rw [if_pos c17] at H
           have c17b0 := decide_eq_true c17
           clear c17
           obtain ⟨ji18, hji18⟩ : ∃ j_ : Int, (wrap64 (7 - (Int.tmod x1001_2 8))) = j_ := ⟨_, rfl⟩
           replace H : (if 0 ≤ (ji18) then (vF.l0 k2 (wrap64 ((wrap64 (2 * x6_2)) + (wrap64 (Go.bits .and .u8 (shr .u8 (rd s0_0 (ji15)) (ji18)) 1)))) a1 (wrap64 (x23_2 + 1)) s0_0 (wrap64 (x1001_2 + 1)) t553) else (none)) = some (r1, r2, r3, r4) := by first | (rw [hji18] at H; exact H) | (simp only [hji18] at H ⊢; exact H)
           have hji18w : (IntKind.i64.wrap (7 - (Int.tmod x1001_2 8))) = ji18 := (xD _).trans hji18
           by_cases c19 : 0 ≤ (ji18)
           ·rw [if_pos c19] at H
            have c19b0 := eq_true c19
            have c19b1 := decide_eq_true c19
            clear c19
            obtain ⟨ji20, hji20⟩ : ∃ j_ : Int, (shr .u8 (rd s0_0 (ji15)) (ji18)) = j_ := ⟨_, rfl⟩
            replace H : (vF.l0 k2 (wrap64 ((wrap64 (2 * x6_2)) + (wrap64 (Go.bits .and .u8 (ji20) 1)))) a1 (wrap64 (x23_2 + 1)) s0_0 (wrap64 (x1001_2 + 1)) t553) = some (r1, r2, r3, r4) := by first | (rw [hji20] at H; exact H) | (simp only [hji20] at H ⊢; exact H)
            have hji20_ : ((rd s0_0 (ji15)) / 2 ^ min (ji18).toNat 8) = ji20 := hji20
            have hji20z : (ji18) ≤ 8 → ((rd s0_0 (ji15)) / 2 ^ (ji18).toNat) = ji20 := jJ hji20
            have H' := Aside0.mk H
            clear H
            obtain ⟨ASz21_0, cSz21_0, HGz21, hgz21, HSz21_0⟩ := HI0.out
            have hcz21_0 := zT HGz21
            have hcz21_1 := zP HGz21
            have hcz21_2 := zS HGz21
            have hfz21_1 := wY HGz21 1
            have hfz21_2 := wY HGz21 2
            clear HGz21 hgz21
            have p554 : 0 ≤ ((ji15) : Int) := dt
            have q554 : (ji15) < (s0_0.length : Int) := dt
            obtain ⟨ad554, e554, hx554_0⟩ := Kd.xL HSz21_0 (ji15) p554 q554
            cases e554
            replace hx554_0 := zU HB.out hx554_0
            replace p554 := eq_true p554
            replace q554 := eq_true q554
            go_wp2
            repeat (go_quiet (fail); try go_wp2)
            go_roundg k2
            case measure => have := HJ5.out; have := HK2.out; omega
            case rel => exact ⟨(wrap64 ((wrap64 (2 * x6_2)) + (wrap64 (Go.bits .and .u8 (ji20) 1)))), (wrap64 (x23_2 + 1)), (wrap64 (x1001_2 + 1)), (by first | rfl | (simp; done) | (simp only [← hji20] <;> (first | rfl | simp)) | (simp [*]; done)), rq, H', ⟨by have := HJ5.out; have := HK2.out; omega⟩, ⟨by repeat (first | (with_reducible first | exact HI0.out | apply vo.alloc | apply vo.drewN | apply vo.drew | apply vo.xT | apply vo.xR) | exact HI0.out)⟩, ⟨by repeat (first | (with_reducible first | exact HK.out | apply vx.yr | apply wl | apply wz | apply wn) | exact HK.out)⟩, ⟨by repeat (first | (with_reducible first | exact HB.out | apply vZ | apply vM | apply vG | refine wk ?_ (vo.ge HI0.out)) | exact HB.out)⟩⟩
           ·rw [if_neg c19] at H
            exact absurd H (by simp)
          ·rw [if_neg c17] at H
           exact absurd H (by simp)
         ·rw [if_neg c16] at H
          exact absurd H (by simp)
        ·simp only [Option.some.injEq, Prod.mk.injEq] at H
         obtain ⟨rfl, rfl, rfl, rfl⟩ := H
         go_wp2
         go_ret2
         exact ⟨re, by repeat (first | (with_reducible first | exact HI0.out | apply vo.alloc | apply vo.drewN | apply vo.drew | apply vo.xT | apply vo.xR) | exact HI0.out), by repeat (first | (with_reducible first | exact HB.out | apply vZ | apply vM | apply vG | refine wk ?_ (vo.ge HI0.out)) | exact HB.out), by repeat (first | (with_reducible first | exact HK.out | apply vx.yr | apply wl | apply wz | apply wn) | exact HK.out)⟩
def vA.l0 : Nat → List ByteArray → ByteArray → Int → Int → Option (Int)
 | 0, _, _, _, _ => none
 | k + 1, x0, x1, x7, x8 => if x8 < x7 then (if 0 ≤ x8 then (if x8 < (x0.length : Int) then (if x1.toList = (jD ByteArray.empty x0 x8).toList then (some x8) else (vA.l0 k x0 x1 x7 (wrap64 (x8 + 1)))) else (none)) else (none)) else (some (-1))
def vA.f (k : Nat) (l0 : List ByteArray) (a1 : ByteArray) : Option (Int) := vA.l0 k l0 a1 (l0.length : Int) 0
theorem vA.wj : ∀ k, (∀ y0 y1 y2 y3, vP (vA.l0 k y0 y1 y2 y3) (vA.l0 (k + 1) y0 y1 y2 y3))
 | 0 => fun _ _ _ _ r h => by simp [vA.l0] at h
 | k + 1 => by
  have ih0 := vA.wj k
  ·intro y0 y1 y2 y3
   unfold vA.l0
   repeat' first
   | (with_reducible exact ih0 _ _ _ _)
   | (with_reducible first | exact vP.refl _ | exact vP.none _ | apply vP.ite | refine vP.bind ?_ fun _ => ?_)
theorem vA.mono : ∀ a0 a1 k, vP (vA.f k a0 a1) (vA.f (k + 1) a0 a1) := by
 intro a0 a1 k
 have ih0 := vA.wj k
 unfold vA.f
 repeat' first
   | (with_reducible exact ih0 _ _ _ _)
   | (with_reducible first | exact vP.refl _ | exact vP.none _ | apply vP.ite | refine vP.bind ?_ fun _ => ?_)
set_option maxHeartbeats 8000000 in
set_option maxRecDepth 100000 in
theorem vA.calls (k : Nat) (A0 : Option Addr) (c0 : Nat) (l0 : List ByteArray) (a1 : ByteArray) (r : Int) (w : World) (hr0 : Kd.C Kd.string w A0 l0.length l0) (hc0 : l0.length ≤ c0) (h : vA.f k l0 a1 = some r) :
  Calls Tryd.prog 116 #[.slice A0 l0.length c0, .string a1] w fun e w' => e = .returned (.int .i64 r) ∧ wa w w' := by
 have HR0 := Aside0.mk hr0
 have HC0 := Aside0.mk hc0
 clear hr0 hc0
 have H : (vA.l0 k l0 a1 (l0.length : Int) 0) = some r := h
 clear h
 have H' := Aside0.mk H
 clear H
 go_enter Tryd.func116, Tryd.ntmps116
 go_wp2
 go_loopg [8] k (fun kq v8 w' => ∃ (x8_1 : Int), v8 = .int .i64 x8_1 ∧ Aside0 (vA.l0 kq l0 a1 (l0.length : Int) x8_1 = some r) ∧ Aside0 (kq ≤ k) ∧ wa w w')
 case atStart => exact ⟨(0), rq, H', ⟨Nat.le_refl _⟩, by repeat (first | exact wa.refl _ | apply wa.step)⟩
 case round =>
  clear H'
  obtain ⟨x8_1, rfl, HA, HK1, ⟨m1, rfl⟩⟩ := hrel
  cases gk with
  | zero => exact absurd HA.out (by simp [vA.l0])
  | succ k1 =>
   have H := HA.out
   clear HA
   simp only [vA.l0] at H
   rcases iL H with H1 | H1 <;> clear H <;> obtain ⟨H, c3b0⟩ := H1
   ·by_cases c4 : 0 ≤ x8_1
    ·rw [if_pos c4] at H
     have c4b0 := decide_eq_true c4
     clear c4
     by_cases c5 : x8_1 < (l0.length : Int)
     ·rw [if_pos c5] at H
      have c5b0 := decide_eq_true c5
      clear c5
      rcases iE H with H1 | H1 <;> clear H <;> obtain ⟨H, c6b0, c6b1, c6⟩ := H1
      ·obtain rfl := Option.some.inj H
       have p555 : 0 ≤ (x8_1 : Int) := dt
       have q555 : x8_1 < (l0.length : Int) := dt
       obtain ⟨ad555, e555, hx555_0⟩ := Kd.zF HR0.out x8_1 p555 q555
       cases e555
       replace p555 := eq_true p555
       replace q555 := eq_true q555
       go_wp2
       go_ret
       exact ⟨by first | rfl | (simp; done) | (simp [*]; done), by repeat (first | exact wa.refl _ | apply wa.step)⟩
      ·have H' := Aside0.mk H
       clear H
       have p555 : 0 ≤ (x8_1 : Int) := dt
       have q555 : x8_1 < (l0.length : Int) := dt
       obtain ⟨ad555, e555, hx555_0⟩ := Kd.zF HR0.out x8_1 p555 q555
       cases e555
       replace p555 := eq_true p555
       replace q555 := eq_true q555
       go_wp2
       go_roundg k1
       case measure => have := HK1.out; omega
       case rel => exact ⟨(wrap64 (x8_1 + 1)), rq, H', ⟨by have := HK1.out; omega⟩, by repeat (first | exact wa.refl _ | apply wa.step)⟩
     ·rw [if_neg c5] at H
      exact absurd H (by simp)
    ·rw [if_neg c4] at H
     exact absurd H (by simp)
   ·obtain rfl := Option.some.inj H
    go_wp2
    go_ret
    exact ⟨by first | rfl | (simp; done) | (simp [*]; done), by repeat (first | exact wa.refl _ | apply wa.step)⟩
def stringslite_HasPrefix.f (a0 : ByteArray) (a1 : ByteArray) : Option (Bool) := if (a0.size : Int) ≥ (a1.size : Int) then (if 0 ≤ (a1.size : Int) then (if (a1.size : Int) ≤ (a0.size : Int) then (some ((a0.extract 0 ((a1.size : Int) : Int).toNat).toList == a1.toList)) else (none)) else (none)) else (some false)
set_option maxHeartbeats 8000000 in
set_option maxRecDepth 100000 in
theorem stringslite_HasPrefix.calls (a0 : ByteArray) (a1 : ByteArray) (r : Bool) (w : World) (h : stringslite_HasPrefix.f a0 a1 = some r) :
  Calls Tryd.prog 131 #[.string a0, .string a1] w fun e w' => e = .returned (.bool r) ∧ wa w w' := by
 have H := h
 unfold stringslite_HasPrefix.f at H
 clear h
 by_cases c3 : (a0.size : Int) ≥ (a1.size : Int)
 ·rw [if_pos c3] at H
  have c3b0 := decide_eq_true c3
  have c3b1 : decide (a1.size ≤ a0.size) = true := decide_eq_true (Int.ofNat_le.mp c3)
  clear c3
  by_cases c4 : 0 ≤ (a1.size : Int)
  ·rw [if_pos c4] at H
   have c4b0 := eq_true c4
   have c4b1 := decide_eq_true c4
   clear c4
   by_cases c5 : (a1.size : Int) ≤ (a0.size : Int)
   ·rw [if_pos c5] at H
    have c5b0 := eq_true c5
    have c5b1 := decide_eq_true c5
    clear c5
    obtain rfl := Option.some.inj H
    go_enter Tryd.func131, Tryd.ntmps131
    go_wp2
    go_ret
    exact ⟨by first | rfl | (simp; done) | (simp [*]; done), by repeat (first | exact wa.refl _ | apply wa.step)⟩
   ·rw [if_neg c5] at H
    exact absurd H (by simp)
  ·rw [if_neg c4] at H
   exact absurd H (by simp)
 ·rw [if_neg c3] at H
  have c3b0 := decide_eq_false c3
  have c3b1 : decide (a1.size ≤ a0.size) = false := decide_eq_false (fun h => c3 (Int.ofNat_le.mpr h))
  clear c3
  obtain rfl := Option.some.inj H
  go_enter Tryd.func131, Tryd.ntmps131
  go_wp2
  go_ret
  exact ⟨by first | rfl | (simp; done) | (simp [*]; done), by repeat (first | exact wa.refl _ | apply wa.step)⟩
def strings_HasPrefix.f (a0 : ByteArray) (a1 : ByteArray) : Option (Bool) := (stringslite_HasPrefix.f a0 a1).bind fun t556 => (some t556)
set_option maxHeartbeats 8000000 in
set_option maxRecDepth 100000 in
theorem strings_HasPrefix.calls (a0 : ByteArray) (a1 : ByteArray) (r : Bool) (w : World) (h : strings_HasPrefix.f a0 a1 = some r) :
  Calls Tryd.prog 119 #[.string a0, .string a1] w fun e w' => e = .returned (.bool r) ∧ wa w w' := by
 have H : ((stringslite_HasPrefix.f a0 a1).bind fun t556 => (some t556)) = some r := h
 clear h
 obtain ⟨t556, A3, H⟩ := oB H
 try dsimp only at H
 obtain rfl := Option.some.inj H
 go_enter Tryd.func119, Tryd.ntmps119
 go_wp2_with (first | (refine gF 131 7 Tryd.func131 #[.string a0, .string a1] rfl rfl ?_; (with_reducible refine (stringslite_HasPrefix.calls a0 a1 t556 _ A3.out).mono ?_); rintro e w' ⟨rfl, ⟨nd, rfl⟩⟩; refine ⟨_, rfl, ?_⟩))
 go_ret
 exact ⟨by first | rfl | (simp; done) | (simp [*]; done), by repeat (first | exact wa.refl _ | apply wa.step)⟩
def yM.f (a0 : ByteArray) (a1_0 : ByteArray) : Option (Bool) := (strings_HasPrefix.f a0 a1_0).bind fun t558 => (some t558)
set_option maxHeartbeats 8000000 in
set_option maxRecDepth 100000 in
theorem yM.calls (a0 : ByteArray) (b1_0 : Nat) (a1_0 : ByteArray) (r : Bool) (w : World) (hbx1_0 : w.heap[b1_0]? = some (.cells #[.string a1_0] 9 (0, 0))) (h : yM.f a0 a1_0 = some r) :
  Calls Tryd.prog 118 #[.string a0, .pointer (some ⟨b1_0, 0, none⟩)] w fun e w' => e = .returned (.bool r) ∧ Below w.heap.size w w' := by
 have BK557 := Aside0.mk hbx1_0
 clear hbx1_0
 have HB := Aside0.mk (Below.refl w.heap.size w)
 have H : ((strings_HasPrefix.f a0 a1_0).bind fun t558 => (some t558)) = some r := h
 clear h
 obtain ⟨t558, A3, H⟩ := oB H
 try dsimp only at H
 obtain rfl := Option.some.inj H
 obtain ⟨hcz4_0, hfz4_0⟩ := cz1f BK557.out
 go_enter Tryd.func118, Tryd.ntmps118
 go_wp2_with (first | (refine gF 119 6 Tryd.func119 #[.string a0, .string a1_0] rfl rfl ?_; (with_reducible refine (strings_HasPrefix.calls a0 a1_0 t558 _ A3.out).mono ?_); rintro e w' ⟨rfl, ⟨nd, rfl⟩⟩; refine ⟨_, rfl, ?_⟩))
 go_ret
 exact ⟨re, bl⟩
def vy.l0 : Nat → List ByteArray → Int → Int → ByteArray → Option (Int)
 | 0, _, _, _, _ => none
 | k + 1, x0, x7, x8, x560000 => if x8 < x7 then (if 0 ≤ x8 then (if x8 < (x0.length : Int) then ((yM.f (jD ByteArray.empty x0 x8) x560000).bind fun t561 => (if t561 = true then (some x8) else (vy.l0 k x0 x7 (wrap64 (x8 + 1)) x560000))) else (none)) else (none)) else (some (-1))
def vy.f (k : Nat) (l0 : List ByteArray) (a1_0 : ByteArray) : Option (Int) := vy.l0 k l0 (l0.length : Int) 0 a1_0
theorem vy.wj : ∀ k, (∀ y0 y1 y2 y3, vP (vy.l0 k y0 y1 y2 y3) (vy.l0 (k + 1) y0 y1 y2 y3))
 | 0 => fun _ _ _ _ r h => by simp [vy.l0] at h
 | k + 1 => by
  have ih0 := vy.wj k
  ·intro y0 y1 y2 y3
   unfold vy.l0
   repeat' first
   | (with_reducible exact ih0 _ _ _ _)
   | (with_reducible first | exact vP.refl _ | exact vP.none _ | apply vP.ite | refine vP.bind ?_ fun _ => ?_)
theorem vy.mono : ∀ a0 a1 k, vP (vy.f k a0 a1) (vy.f (k + 1) a0 a1) := by
 intro a0 a1 k
 have ih0 := vy.wj k
 unfold vy.f
 repeat' first
   | (with_reducible exact ih0 _ _ _ _)
   | (with_reducible first | exact vP.refl _ | exact vP.none _ | apply vP.ite | refine vP.bind ?_ fun _ => ?_)
set_option maxHeartbeats 8000000 in
set_option maxRecDepth 100000 in
theorem vy.calls (k : Nat) (A0 : Option Addr) (c0 : Nat) (l0 : List ByteArray) (b1_0 : Nat) (a1_0 : ByteArray) (r : Int) (w : World) (hr0 : Kd.C Kd.string w A0 l0.length l0) (hc0 : l0.length ≤ c0) (hbx1_0 : w.heap[b1_0]? = some (.cells #[.string a1_0] 9 (0, 0))) (h : vy.f k l0 a1_0 = some r) :
  Calls Tryd.prog 130 #[.slice A0 l0.length c0, .func (.func 118) #[] #[.pointer (some ⟨b1_0, 0, none⟩)]] w fun e w' => e = .returned (.int .i64 r) ∧ Below w.heap.size w w' := by
 have HR0 := Aside0.mk hr0
 have HC0 := Aside0.mk hc0
 clear hr0 hc0
 have BK559 := Aside0.mk hbx1_0
 clear hbx1_0
 have HB := Aside0.mk (Below.refl w.heap.size w)
 have H : (vy.l0 k l0 (l0.length : Int) 0 a1_0) = some r := h
 clear h
 have H' := Aside0.mk H
 clear H
 go_enter Tryd.func130, Tryd.ntmps130
 go_wp2
 go_loopg [8] k (fun kq v8 w' => ∃ (x8_1 : Int), v8 = .int .i64 x8_1 ∧ Aside0 (vy.l0 kq l0 (l0.length : Int) x8_1 a1_0 = some r) ∧ Aside0 (kq ≤ k) ∧ Aside0 (w'.heap[b1_0]? = some (.cells #[.string a1_0] 9 (0, 0))) ∧ Aside0 (Below w.heap.size w w'))
 case atStart => exact ⟨(0), rq, H', ⟨Nat.le_refl _⟩, ⟨bU BK559.out⟩, ⟨bl⟩⟩
 case round =>
  clear H'
  obtain ⟨x8_1, rfl, HA, HK1, BK559, HB⟩ := hrel
  cases gk with
  | zero => exact absurd HA.out (by simp [vy.l0])
  | succ k1 =>
   have H := HA.out
   clear HA
   simp only [vy.l0] at H
   rcases iL H with H1 | H1 <;> clear H <;> obtain ⟨H, c3b0⟩ := H1
   ·by_cases c4 : 0 ≤ x8_1
    ·rw [if_pos c4] at H
     have c4b0 := decide_eq_true c4
     clear c4
     by_cases c5 : x8_1 < (l0.length : Int)
     ·rw [if_pos c5] at H
      have c5b0 := decide_eq_true c5
      clear c5
      obtain ⟨t561, A6, H⟩ := oB H
      try dsimp only at H
      by_cases c7 : t561 = true
      ·subst c7
       rw [if_pos rfl] at H
       obtain rfl := Option.some.inj H
       have p560 : 0 ≤ (x8_1 : Int) := dt
       have q560 : x8_1 < (l0.length : Int) := dt
       obtain ⟨ad560, e560, hx560_0⟩ := Kd.zF HR0.out x8_1 p560 q560
       cases e560
       replace hx560_0 := hcB HB.out hx560_0
       replace p560 := eq_true p560
       replace q560 := eq_true q560
       go_wp2_with (first | ((with_reducible refine zO rfl ?_); refine ks (some 16) rfl rfl Tryd.func118 (by kernel_rfl) rfl #[.string (jD ByteArray.empty l0 x8_1), .pointer (some ⟨b1_0, 0, none⟩)] rfl rfl (by (try simp only [List.map_toArray, List.map_cons, List.map_nil]); first | done | rfl | (simp only [List.length_drop, List.length_take]; rfl)) ?_; (with_reducible refine (yM.calls (jD ByteArray.empty l0 x8_1) b1_0 a1_0 true _ ?side1 A6.out).mono ?_); (case side1 => exact bU BK559.out); rintro e w8 ⟨rfl, hb⟩; refine ⟨_, rfl, ?_⟩; have n_ := aC (vu (bU BK559.out) hb) (aE (bs hb)); clear BK559 HB; obtain ⟨BK559, HB⟩ := n_))
       go_ret
       exact ⟨re, bl⟩
      ·replace c7 := Bool.eq_false_iff.mpr c7
       subst c7
       rw [if_neg Bool.false_ne_true] at H
       have H' := Aside0.mk H
       clear H
       have p560 : 0 ≤ (x8_1 : Int) := dt
       have q560 : x8_1 < (l0.length : Int) := dt
       obtain ⟨ad560, e560, hx560_0⟩ := Kd.zF HR0.out x8_1 p560 q560
       cases e560
       replace hx560_0 := hcB HB.out hx560_0
       replace p560 := eq_true p560
       replace q560 := eq_true q560
       go_wp2_with (first | ((with_reducible refine zO rfl ?_); refine ks (some 16) rfl rfl Tryd.func118 (by kernel_rfl) rfl #[.string (jD ByteArray.empty l0 x8_1), .pointer (some ⟨b1_0, 0, none⟩)] rfl rfl (by (try simp only [List.map_toArray, List.map_cons, List.map_nil]); first | done | rfl | (simp only [List.length_drop, List.length_take]; rfl)) ?_; (with_reducible refine (yM.calls (jD ByteArray.empty l0 x8_1) b1_0 a1_0 false _ ?side1 A6.out).mono ?_); (case side1 => exact bU BK559.out); rintro e w9 ⟨rfl, hb⟩; refine ⟨_, rfl, ?_⟩; have n_ := aC (vu (bU BK559.out) hb) (aE (bs hb)); clear BK559 HB; obtain ⟨BK559, HB⟩ := n_))
       go_roundg k1
       case measure => have := HK1.out; omega
       case rel => exact ⟨(wrap64 (x8_1 + 1)), rq, H', ⟨by have := HK1.out; omega⟩, ⟨bU BK559.out⟩, ⟨bl⟩⟩
     ·rw [if_neg c5] at H
      exact absurd H (by simp)
    ·rw [if_neg c4] at H
     exact absurd H (by simp)
   ·obtain rfl := Option.some.inj H
    go_wp2
    go_ret
    exact ⟨re, bl⟩
def vN.f (k : Nat) (l0 : List ByteArray) (a1_0 : ByteArray) : Option (Bool) := (vy.f k l0 a1_0).bind fun t563 => (some (decide (t563 ≥ 0)))
theorem vN.mono : ∀ a0 a1 k, vP (vN.f k a0 a1) (vN.f (k + 1) a0 a1) := by
 intro a0 a1 k
 unfold vN.f
 repeat' first
   | (with_reducible exact vy.mono _ _ _)
   | (with_reducible first | exact vP.refl _ | exact vP.none _ | apply vP.ite | refine vP.bind ?_ fun _ => ?_)
set_option maxHeartbeats 8000000 in
set_option maxRecDepth 100000 in
theorem vN.calls (k : Nat) (A0 : Option Addr) (c0 : Nat) (l0 : List ByteArray) (b1_0 : Nat) (a1_0 : ByteArray) (r : Bool) (w : World) (hr0 : Kd.C Kd.string w A0 l0.length l0) (hc0 : l0.length ≤ c0) (hbx1_0 : w.heap[b1_0]? = some (.cells #[.string a1_0] 9 (0, 0))) (h : vN.f k l0 a1_0 = some r) :
  Calls Tryd.prog 117 #[.slice A0 l0.length c0, .func (.func 118) #[] #[.pointer (some ⟨b1_0, 0, none⟩)]] w fun e w' => e = .returned (.bool r) ∧ Below w.heap.size w w' := by
 have HR0 := Aside0.mk hr0
 have HC0 := Aside0.mk hc0
 clear hr0 hc0
 have BK562 := Aside0.mk hbx1_0
 clear hbx1_0
 have HB := Aside0.mk (Below.refl w.heap.size w)
 have H : ((vy.f k l0 a1_0).bind fun t563 => (some (decide (t563 ≥ 0)))) = some r := h
 clear h
 obtain ⟨t563, A3, H⟩ := oB H
 try dsimp only at H
 obtain rfl := Option.some.inj H
 go_enter Tryd.func117, Tryd.ntmps117
 go_wp2_with (first | (refine gF 130 7 Tryd.func130 #[.slice A0 l0.length c0, .func (.func 118) #[] #[.pointer (some ⟨b1_0, 0, none⟩)]] rfl rfl ?_; (with_reducible refine (vy.calls k _ _ l0 b1_0 a1_0 t563 _ ?side1 ?side2 ?side3 A3.out).mono ?_); (case side1 => exact cU HR0.out); (case side2 => exact HC0.out); (case side3 => exact bU BK562.out); rintro e w4 ⟨rfl, hb⟩; refine ⟨_, rfl, ?_⟩; have n_ := aC (vu (bU BK562.out) hb) (aE (bs hb)); clear BK562 HB; obtain ⟨BK562, HB⟩ := n_))
 go_ret
 exact ⟨re, bl⟩
mutual
def vL.l0 : Nat → List ByteArray → List Int → Int → Bool → ByteArray → Option (Int × Int × Int × Bool)
 | 0, _, _, _, _, _ => none
 | k + 1, x1, x1000, x1001, x1002, x565000 => (vA.f k x1 x565000).bind fun t565 => (if t565 ≥ 0 then (vL.j1 k x1 t565 (x565000.toList != ([] : List UInt8)) x1000 x1001 x1002 x565000) else (vL.j1 k x1 t565 false x1000 x1001 x1002 x565000))
def vL.j1 : Nat → List ByteArray → Int → Bool → List Int → Int → Bool → ByteArray → Option (Int × Int × Int × Bool)
 | 0, _, _, _, _, _, _, _ => none
 | k + 1, x1, x7, x18, x1000, x1001, x1002, x565000 => if x18 = true then (some (x7, 0, x1001, x1002)) else ((vN.f k x1 x565000).bind fun t566 => (if t566 = true then ((vF.f k x1000 x1001 x1002 1).bind fun bt567 => (if bt567.2.1 = 0 then (if x565000.size + (Utf8.encode (wrap32 (48 + (wrap32 (bt567.1))))).size ≤ 9223372036854775807 then (vL.l0 k x1 x1000 bt567.2.2.1 bt567.2.2.2 (x565000 ++ (Utf8.encode (wrap32 (48 + (wrap32 (bt567.1))))))) else (none)) else (some (0, bt567.2.1, bt567.2.2.1, bt567.2.2.2)))) else (some (0, 3, x1001, x1002))))
end
def vL.f (k : Nat) (s0_0 : List Int) (s0_1 : Int) (s0_2 : Bool) (l1 : List ByteArray) : Option (Int × Int × Int × Bool) := vL.l0 k l1 s0_0 s0_1 s0_2 (⟨#[]⟩ : ByteArray)
theorem vL.wj : ∀ k, (∀ y0 y1 y2 y3 y4, vP (vL.l0 k y0 y1 y2 y3 y4) (vL.l0 (k + 1) y0 y1 y2 y3 y4)) ∧ (∀ y0 y1 y2 y3 y4 y5 y6, vP (vL.j1 k y0 y1 y2 y3 y4 y5 y6) (vL.j1 (k + 1) y0 y1 y2 y3 y4 y5 y6))
 | 0 => ⟨fun _ _ _ _ _ r h => by simp [vL.l0] at h, fun _ _ _ _ _ _ _ r h => by simp [vL.j1] at h⟩
 | k + 1 => by
  obtain ⟨ih0, ih1⟩ := vL.wj k
  refine ⟨?_, ?_⟩
  ·intro y0 y1 y2 y3 y4
   unfold vL.l0
   repeat' first
   | (with_reducible exact ih0 _ _ _ _ _)
   | (with_reducible exact ih1 _ _ _ _ _ _ _)
   | (with_reducible exact vF.mono _ _ _ _ _)
   | (with_reducible exact vN.mono _ _ _)
   | (with_reducible exact vA.mono _ _ _)
   | (with_reducible first | exact vP.refl _ | exact vP.none _ | apply vP.ite | refine vP.bind ?_ fun _ => ?_)
  ·intro y0 y1 y2 y3 y4 y5 y6
   unfold vL.j1
   repeat' first
   | (with_reducible exact ih0 _ _ _ _ _)
   | (with_reducible exact ih1 _ _ _ _ _ _ _)
   | (with_reducible exact vF.mono _ _ _ _ _)
   | (with_reducible exact vN.mono _ _ _)
   | (with_reducible exact vA.mono _ _ _)
   | (with_reducible first | exact vP.refl _ | exact vP.none _ | apply vP.ite | refine vP.bind ?_ fun _ => ?_)
theorem vL.mono : ∀ a0 a1 a2 a3 k, vP (vL.f k a0 a1 a2 a3) (vL.f (k + 1) a0 a1 a2 a3) := by
 intro a0 a1 a2 a3 k
 obtain ⟨ih0, ih1⟩ := vL.wj k
 unfold vL.f
 repeat' first
   | (with_reducible exact ih0 _ _ _ _ _)
   | (with_reducible exact ih1 _ _ _ _ _ _ _)
   | (with_reducible exact vF.mono _ _ _ _ _)
   | (with_reducible exact vN.mono _ _ _)
   | (with_reducible exact vA.mono _ _ _)
   | (with_reducible first | exact vP.refl _ | exact vP.none _ | apply vP.ite | refine vP.bind ?_ fun _ => ?_)
set_option maxHeartbeats 8000000 in
set_option maxRecDepth 100000 in
theorem vL.calls (k : Nat) (g : Nat) (s0_0 : List Int) (s0_1 : Int) (s0_2 : Bool) (A1 : Option Addr) (c1 : Nat) (l1 : List ByteArray) (r1 : Int) (r2 : Int) (r3 : Int) (r4 : Bool) (w0 w : World) (hI : vo w0 w g s0_0 s0_1 s0_2) (hB : Below w0.heap.size w0 w) (hr1 : Kd.C Kd.string w A1 l1.length l1) (hc1 : l1.length ≤ c1) (hf1 : ∀ ad, A1 = some ad → 0 < l1.length → ad.block ≠ g) (gx : Nat) (hXk : ∀ W_ : World, vx w W_ g none → W_.cell? ⟨gx, 0, none⟩ = some (.pointer (some ⟨g, 0, none⟩))) (h : vL.f k s0_0 s0_1 s0_2 l1 = some (r1, r2, r3, r4)) :
  Calls Tryd.prog 102 #[.pointer (some ⟨gx, 0, none⟩), .slice A1 l1.length c1] w fun e w' => e = .returned (.tuple #[.int .i64 r1, .int .i64 r2]) ∧ vo w0 w' g s0_0 r3 r4 ∧ Below w0.heap.size w0 w' ∧ vx w w' g none := by
 have hu110 := Tryd.underlying110
 have HR1 := Aside0.mk hr1
 have HC1 := Aside0.mk hc1
 clear hr1 hc1
 have HI0 := Aside0.mk hI
 have HK := Aside0.mk (vx.refl w g none)
 have HL := Aside0.mk hB.size
 clear hI
 have HW0 := Aside0.mk hB.size
 have HB := Aside0.mk hB
 clear hB
 have H : (vL.l0 k l1 s0_0 s0_1 s0_2 (⟨#[]⟩ : ByteArray)) = some (r1, r2, r3, r4) := h
 clear h
 have H' := Aside0.mk H
 clear H
 go_enter Tryd.func102, Tryd.ntmps102
 have hX_ := hXk _ HK.out
 go_wp2_with (first | ((with_reducible refine gd 6 rfl ?_); refine bx 6 #[.string (⟨#[]⟩ : ByteArray)] 9 rfl rfl ?_; intro gb564 hg w3 hbox hb; have n_ := aC (vo.below (by repeat (first | (with_reducible first | exact HI0.out | apply vo.alloc | apply vo.drewN | apply vo.drew | apply vo.xT | apply vo.xR) | exact HI0.out)) hb) (aC (vx.trans (by repeat (first | (with_reducible first | exact HK.out | apply vx.yr | apply wl | apply wz | apply wn) | exact HK.out)) (vx.of_below hb g none) (.inl rfl)) (aC (zr (by repeat (first | (with_reducible first | exact HB.out | apply vZ | apply vM | apply vG | refine wk ?_ (vo.ge HI0.out)) | exact HB.out)) hb) (aC hbox (aC ((by rw [hg]; exact (jc (w := w) (g := g) (row := none) (by repeat (first | (with_reducible first | exact HK.out | apply vx.yr | apply wl | apply wz | apply wn) | exact HK.out))) : w.heap.size ≤ gb564)) (aC ((Nat.le_trans HW0.out (by rw [hg]; exact (jc (w := w) (g := g) (row := none) (by repeat (first | (with_reducible first | exact HK.out | apply vx.yr | apply wl | apply wz | apply wn) | exact HK.out))) : w.heap.size ≤ gb564) : w0.heap.size ≤ gb564)) (aC ((by rw [hg]; exact Nat.ne_of_lt (vo.lt (show vo w0 _ g s0_0 s0_1 s0_2 from by repeat (first | (with_reducible first | exact HI0.out | apply vo.alloc | apply vo.drewN | apply vo.drew | apply vo.xT | apply vo.xR) | exact HI0.out))) : g ≠ gb564)) (aE ((by rw [hg]; exact Nat.ne_of_gt (vo.lt (show vo w0 _ g s0_0 s0_1 s0_2 from by repeat (first | (with_reducible first | exact HI0.out | apply vo.alloc | apply vo.drewN | apply vo.drew | apply vo.xT | apply vo.xR) | exact HI0.out))) : gb564 ≠ g))))))))); clear HI0 HK HB; obtain ⟨HI0, HK, HB, BK564, GW564, GE564, NB0_564, NB564_0⟩ := n_; clear hb hbox hg; have hnb4 := NB564_0.out; have hnc4 := NB0_564.out; obtain ⟨hcz5_0, hfz5_0⟩ := cz1f BK564.out; have hX_ := hXk _ HK.out))
 go_loopg [] k (fun kq w' => ∃ (x1001_1 : Int) (x1002_1 : Bool) (x565000_1 : ByteArray), Aside0 (vL.l0 kq l1 s0_0 x1001_1 x1002_1 x565000_1 = some (r1, r2, r3, r4)) ∧ Aside0 (kq ≤ k) ∧ Aside0 (w'.heap[gb564]? = some (.cells #[.string x565000_1] 9 (0, 0))) ∧ Aside0 (vo w0 w' g s0_0 x1001_1 x1002_1) ∧ Aside0 (vx w w' g none) ∧ Aside0 (Below w0.heap.size w0 w'))
 case atStart => exact ⟨(s0_1), (s0_2), ((⟨#[]⟩ : ByteArray)), H', ⟨Nat.le_refl _⟩, ⟨by (with_reducible repeat first | apply vl | apply vn | apply vm); refine vv (cs := #[.string (⟨#[]⟩ : ByteArray)]) ?_ 0 _ rfl; (with_reducible repeat first | apply vl | apply vn | apply vm); exact BK564.out⟩, ⟨by repeat (first | (with_reducible first | exact HI0.out | apply vo.alloc | apply vo.drewN | apply vo.drew | apply vo.xT | apply vo.xR | refine vo.far ?_ NB0_564.out _) | exact HI0.out)⟩, ⟨by repeat (first | (with_reducible first | exact HK.out | apply vx.yr | apply wl | apply wz | apply wn | refine xO ?_ GW564.out _) | exact HK.out)⟩, ⟨by repeat (first | (with_reducible first | exact HB.out | apply vZ | apply vM | apply vG | refine wk ?_ (vo.ge HI0.out) | refine wk ?_ GE564.out) | exact HB.out)⟩⟩
 case round =>
  clear H'
  try clear c1
  obtain ⟨x1001_1, x1002_1, x565000_1, HA, HK1, BK564, HI0, HK, HB⟩ := hrel
  cases gk with
  | zero => exact absurd HA.out (by simp [vL.l0])
  | succ k1 =>
   have H := HA.out
   clear HA
   simp only [vL.l0] at H
   obtain ⟨t565, A6, H⟩ := oB H
   try dsimp only at H
   have HC7 := Aside0.mk H
   clear H
   have hnb8 := NB564_0.out
   have hnc8 := NB0_564.out
   obtain ⟨hcz9_0, hfz9_0⟩ := cz1f BK564.out
   have hX_ := hXk _ HK.out
   go_upto_region 3 with (first | (refine gF 116 12 Tryd.func116 #[.slice A1 l1.length c1, .string x565000_1] rfl rfl ?_; (with_reducible refine (vA.calls k1 _ _ l1 x565000_1 t565 _ ?side1 ?side2 A6.out).mono ?_); (case side1 => exact Kd.kA (⟨#[]⟩ : ByteArray) HR1.out (by repeat (first | (with_reducible first | exact HK.out | apply vx.yr | apply wl | apply wz | apply wn | refine xO ?_ GW564.out _) | exact HK.out)) hf1); (case side2 => exact HC1.out); rintro e w' ⟨rfl, ⟨nd, rfl⟩⟩; refine ⟨_, rfl, ?_⟩))
   (try simp only [Act.put, List.setIfInBounds_toArray, List.set_cons_zero, List.set_cons_succ])
   go_cut [18] (fun v18 wc => ∃ (kq : Nat) (x18_6 : Bool), v18 = .bool x18_6 ∧ Aside0 (vL.j1 kq l1 t565 x18_6 s0_0 x1001_1 x1002_1 x565000_1 = some (r1, r2, r3, r4)) ∧ Aside0 (kq ≤ k1) ∧ Aside0 (wc.heap[gb564]? = some (.cells #[.string x565000_1] 9 (0, 0))) ∧ Aside0 (vo w0 wc g s0_0 x1001_1 x1002_1) ∧ Aside0 (vx w wc g none) ∧ Aside0 (Below w0.heap.size w0 wc))
   case first =>
    have H := HC7.out
    clear HC7
    rcases iL H with H1 | H1 <;> clear H <;> obtain ⟨H, c10b0⟩ := H1
    ·(first | rw [c10b0] | (simp only [xD, zm]; rw [c10b0]) | skip)
     have H' := Aside0.mk H
     clear H
     have hnb11 := NB564_0.out
     have hnc11 := NB0_564.out
     obtain ⟨hcz12_0, hfz12_0⟩ := cz1f BK564.out
     have hX_ := hXk _ HK.out
     go_wp2
     go_meet
     case rel => exact ⟨_, ((x565000_1.toList != ([] : List UInt8))), rq, H', ⟨by have := HK1.out; first | omega | exact Nat.le_refl _⟩, ⟨bU BK564.out⟩, ⟨by repeat (first | (with_reducible first | exact HI0.out | apply vo.alloc | apply vo.drewN | apply vo.drew | apply vo.xT | apply vo.xR | refine vo.far ?_ NB0_564.out _) | exact HI0.out)⟩, ⟨by repeat (first | (with_reducible first | exact HK.out | apply vx.yr | apply wl | apply wz | apply wn | refine xO ?_ GW564.out _) | exact HK.out)⟩, ⟨by repeat (first | (with_reducible first | exact HB.out | apply vZ | apply vM | apply vG | refine wk ?_ (vo.ge HI0.out) | refine wk ?_ GE564.out) | exact HB.out)⟩⟩
    ·(first | rw [c10b0] | (simp only [xD, zm]; rw [c10b0]) | skip)
     have H' := Aside0.mk H
     clear H
     have hX_ := hXk _ HK.out
     go_wp2
     go_meet
     case rel => exact ⟨_, (false), rq, H', ⟨by have := HK1.out; first | omega | exact Nat.le_refl _⟩, ⟨bU BK564.out⟩, ⟨by repeat (first | (with_reducible first | exact HI0.out | apply vo.alloc | apply vo.drewN | apply vo.drew | apply vo.xT | apply vo.xR | refine vo.far ?_ NB0_564.out _) | exact HI0.out)⟩, ⟨by repeat (first | (with_reducible first | exact HK.out | apply vx.yr | apply wl | apply wz | apply wn | refine xO ?_ GW564.out _) | exact HK.out)⟩, ⟨by repeat (first | (with_reducible first | exact HB.out | apply vZ | apply vM | apply vG | refine wk ?_ (vo.ge HI0.out) | refine wk ?_ GE564.out) | exact HB.out)⟩⟩
   case rest =>
    clear HC7
    try clear c1
    obtain ⟨kq, x18_6, rfl, HA, HJ6, BK564, HI0, HK, HB⟩ := hcut
    cases kq with
    | zero => exact absurd HA.out (by simp [vL.j1])
    | succ kj6 =>
     have H := HA.out
     clear HA
     simp only [vL.j1] at H
     by_cases c13 : x18_6 = true
     ·subst c13
      rw [if_pos rfl] at H
      simp only [Option.some.injEq, Prod.mk.injEq] at H
      obtain ⟨rfl, rfl, rfl, rfl⟩ := H
      have hX_ := hXk _ HK.out
      go_wp2
      go_ret2
      exact ⟨re, by repeat (first | (with_reducible first | exact HI0.out | apply vo.alloc | apply vo.drewN | apply vo.drew | apply vo.xT | apply vo.xR | refine vo.far ?_ NB0_564.out _) | exact HI0.out), by repeat (first | (with_reducible first | exact HB.out | apply vZ | apply vM | apply vG | refine wk ?_ (vo.ge HI0.out) | refine wk ?_ GE564.out) | exact HB.out), by repeat (first | (with_reducible first | exact HK.out | apply vx.yr | apply wl | apply wz | apply wn | refine xO ?_ GW564.out _) | exact HK.out)⟩
     ·replace c13 := Bool.eq_false_iff.mpr c13
      subst c13
      rw [if_neg Bool.false_ne_true] at H
      obtain ⟨t566, A14, H⟩ := oB H
      try dsimp only at H
      by_cases c15 : t566 = true
      ·subst c15
       rw [if_pos rfl] at H
       obtain ⟨⟨t567, t568, t569, t570⟩, A16, H⟩ := oB H
       try dsimp only at H
       rcases iE H with H1 | H1 <;> clear H <;> obtain ⟨H, c17b0, c17b1, c17⟩ := H1
       ·by_cases c18 : x565000_1.size + (Utf8.encode (wrap32 (48 + (wrap32 (t567))))).size ≤ 9223372036854775807
        ·rw [if_pos c18] at H
         have c18b0 := eq_true c18
         have c18b1 := decide_eq_true c18
         try have c18b2 : (9223372036854775807 < x565000_1.size + (Utf8.encode (wrap32 (48 + (wrap32 (t567))))).size) = False := eq_false (Nat.not_lt.2 c18)
         have H' := Aside0.mk H
         clear H
         have hX_ := hXk _ HK.out
         go_wp2_with (first | (refine gF 117 22 Tryd.func117 #[.slice A1 l1.length c1, .func (.func 118) #[] #[.pointer (some ⟨gb564, 0, none⟩)]] rfl rfl ?_; (with_reducible refine (vN.calls kj6 _ _ l1 gb564 x565000_1 true _ ?side1 ?side2 ?side3 A14.out).mono ?_); (case side1 => exact Kd.kA (⟨#[]⟩ : ByteArray) HR1.out (by repeat (first | (with_reducible first | exact HK.out | apply vx.yr | apply wl | apply wz | apply wn | refine xO ?_ GW564.out _) | exact HK.out)) hf1); (case side2 => exact HC1.out); (case side3 => exact bU BK564.out); rintro e w19 ⟨rfl, hb⟩; refine ⟨_, rfl, ?_⟩; have n_ := aC (vu (bU BK564.out) hb) (aC (vo.below (by repeat (first | (with_reducible first | exact HI0.out | apply vo.alloc | apply vo.drewN | apply vo.drew | apply vo.xT | apply vo.xR | refine vo.far ?_ NB0_564.out _) | exact HI0.out)) hb) (aC (vx.trans (by repeat (first | (with_reducible first | exact HK.out | apply vx.yr | apply wl | apply wz | apply wn | refine xO ?_ GW564.out _) | exact HK.out)) (vx.of_below hb g none) (.inl rfl)) (aE (zr (by repeat (first | (with_reducible first | exact HB.out | apply vZ | apply vM | apply vG | refine wk ?_ (vo.ge HI0.out) | refine wk ?_ GE564.out) | exact HB.out)) hb)))); clear BK564 HI0 HK HB; obtain ⟨BK564, HI0, HK, HB⟩ := n_; have hX_ := hXk _ HK.out) | (refine gF 114 29 Tryd.func114 #[.pointer (some ⟨g, 0, none⟩), .int .i64 1] rfl rfl ?_; (with_reducible refine (vF.calls kj6 g s0_0 x1001_1 x1002_1 1 t567 t568 t569 t570 w0 _ ?side1 ?side2 A16.out).mono ?_); (case side1 => repeat (first | (with_reducible first | exact HI0.out | apply vo.alloc | apply vo.drewN | apply vo.drew | apply vo.xT | apply vo.xR | refine vo.far ?_ NB0_564.out _) | exact HI0.out)); (case side2 => repeat (first | (with_reducible first | exact HB.out | apply vZ | apply vM | apply vG | refine wk ?_ (vo.ge HI0.out) | refine wk ?_ GE564.out) | exact HB.out)); rintro e w20 ⟨rfl, hi, hb, hk⟩; refine ⟨_, rfl, ?_⟩; have n_ := aC (vx.blk hk (g' := gb564) (o := .cells #[.string x565000_1] 9 (0, 0)) (bU BK564.out) NB564_0.out (by simp)) (aC (vx.trans (by repeat (first | (with_reducible first | exact HK.out | apply vx.yr | apply wl | apply wz | apply wn | refine xO ?_ GW564.out _) | exact HK.out)) hk (.inl rfl)) (aC hb (aE hi))); clear BK564 HK HB HI0; obtain ⟨BK564, HK, HB, HI0⟩ := n_; have hnb21 := NB564_0.out; have hnc21 := NB0_564.out; obtain ⟨hcz22_0, hfz22_0⟩ := cz1f BK564.out; have hX_ := hXk _ HK.out))
         go_roundg kj6
         case measure => have := HK1.out; have := HJ6.out; omega
         case rel => exact ⟨(t569), (t570), (x565000_1 ++ (Utf8.encode (wrap32 (48 + (wrap32 (t567)))))), H', ⟨by have := HK1.out; have := HJ6.out; omega⟩, ⟨by (with_reducible repeat first | apply vl | apply vn | apply vm); refine vv (cs := #[.string x565000_1]) ?_ 0 _ rfl; (with_reducible repeat first | apply vl | apply vn | apply vm); exact BK564.out⟩, ⟨by repeat (first | (with_reducible first | exact HI0.out | apply vo.alloc | apply vo.drewN | apply vo.drew | apply vo.xT | apply vo.xR | refine vo.far ?_ NB0_564.out _) | exact HI0.out)⟩, ⟨by repeat (first | (with_reducible first | exact HK.out | apply vx.yr | apply wl | apply wz | apply wn | refine xO ?_ GW564.out _) | exact HK.out)⟩, ⟨by repeat (first | (with_reducible first | exact HB.out | apply vZ | apply vM | apply vG | refine wk ?_ (vo.ge HI0.out) | refine wk ?_ GE564.out) | exact HB.out)⟩⟩
        ·rw [if_neg c18] at H
         exact absurd H (by simp)
       ·simp only [Option.some.injEq, Prod.mk.injEq] at H
        obtain ⟨rfl, rfl, rfl, rfl⟩ := H
        have hX_ := hXk _ HK.out
        go_wp2_with (first | (refine gF 117 22 Tryd.func117 #[.slice A1 l1.length c1, .func (.func 118) #[] #[.pointer (some ⟨gb564, 0, none⟩)]] rfl rfl ?_; (with_reducible refine (vN.calls kj6 _ _ l1 gb564 x565000_1 true _ ?side1 ?side2 ?side3 A14.out).mono ?_); (case side1 => exact Kd.kA (⟨#[]⟩ : ByteArray) HR1.out (by repeat (first | (with_reducible first | exact HK.out | apply vx.yr | apply wl | apply wz | apply wn | refine xO ?_ GW564.out _) | exact HK.out)) hf1); (case side2 => exact HC1.out); (case side3 => exact bU BK564.out); rintro e w23 ⟨rfl, hb⟩; refine ⟨_, rfl, ?_⟩; have n_ := aC (vu (bU BK564.out) hb) (aC (vo.below (by repeat (first | (with_reducible first | exact HI0.out | apply vo.alloc | apply vo.drewN | apply vo.drew | apply vo.xT | apply vo.xR | refine vo.far ?_ NB0_564.out _) | exact HI0.out)) hb) (aC (vx.trans (by repeat (first | (with_reducible first | exact HK.out | apply vx.yr | apply wl | apply wz | apply wn | refine xO ?_ GW564.out _) | exact HK.out)) (vx.of_below hb g none) (.inl rfl)) (aE (zr (by repeat (first | (with_reducible first | exact HB.out | apply vZ | apply vM | apply vG | refine wk ?_ (vo.ge HI0.out) | refine wk ?_ GE564.out) | exact HB.out)) hb)))); clear BK564 HI0 HK HB; obtain ⟨BK564, HI0, HK, HB⟩ := n_; have hX_ := hXk _ HK.out) | (refine gF 114 29 Tryd.func114 #[.pointer (some ⟨g, 0, none⟩), .int .i64 1] rfl rfl ?_; (with_reducible refine (vF.calls kj6 g s0_0 x1001_1 x1002_1 1 t567 t568 t569 t570 w0 _ ?side1 ?side2 A16.out).mono ?_); (case side1 => repeat (first | (with_reducible first | exact HI0.out | apply vo.alloc | apply vo.drewN | apply vo.drew | apply vo.xT | apply vo.xR | refine vo.far ?_ NB0_564.out _) | exact HI0.out)); (case side2 => repeat (first | (with_reducible first | exact HB.out | apply vZ | apply vM | apply vG | refine wk ?_ (vo.ge HI0.out) | refine wk ?_ GE564.out) | exact HB.out)); rintro e w24 ⟨rfl, hi, hb, hk⟩; refine ⟨_, rfl, ?_⟩; have n_ := aC (vx.blk hk (g' := gb564) (o := .cells #[.string x565000_1] 9 (0, 0)) (bU BK564.out) NB564_0.out (by simp)) (aC (vx.trans (by repeat (first | (with_reducible first | exact HK.out | apply vx.yr | apply wl | apply wz | apply wn | refine xO ?_ GW564.out _) | exact HK.out)) hk (.inl rfl)) (aC hb (aE hi))); clear BK564 HK HB HI0; obtain ⟨BK564, HK, HB, HI0⟩ := n_; have hX_ := hXk _ HK.out))
        go_ret2
        exact ⟨re, by repeat (first | (with_reducible first | exact HI0.out | apply vo.alloc | apply vo.drewN | apply vo.drew | apply vo.xT | apply vo.xR | refine vo.far ?_ NB0_564.out _) | exact HI0.out), by repeat (first | (with_reducible first | exact HB.out | apply vZ | apply vM | apply vG | refine wk ?_ (vo.ge HI0.out) | refine wk ?_ GE564.out) | exact HB.out), by repeat (first | (with_reducible first | exact HK.out | apply vx.yr | apply wl | apply wz | apply wn | refine xO ?_ GW564.out _) | exact HK.out)⟩
      ·replace c15 := Bool.eq_false_iff.mpr c15
       subst c15
       rw [if_neg Bool.false_ne_true] at H
       simp only [Option.some.injEq, Prod.mk.injEq] at H
       obtain ⟨rfl, rfl, rfl, rfl⟩ := H
       have hX_ := hXk _ HK.out
       go_wp2_with (first | (refine gF 117 22 Tryd.func117 #[.slice A1 l1.length c1, .func (.func 118) #[] #[.pointer (some ⟨gb564, 0, none⟩)]] rfl rfl ?_; (with_reducible refine (vN.calls kj6 _ _ l1 gb564 x565000_1 false _ ?side1 ?side2 ?side3 A14.out).mono ?_); (case side1 => exact Kd.kA (⟨#[]⟩ : ByteArray) HR1.out (by repeat (first | (with_reducible first | exact HK.out | apply vx.yr | apply wl | apply wz | apply wn | refine xO ?_ GW564.out _) | exact HK.out)) hf1); (case side2 => exact HC1.out); (case side3 => exact bU BK564.out); rintro e w25 ⟨rfl, hb⟩; refine ⟨_, rfl, ?_⟩; have n_ := aC (vu (bU BK564.out) hb) (aC (vo.below (by repeat (first | (with_reducible first | exact HI0.out | apply vo.alloc | apply vo.drewN | apply vo.drew | apply vo.xT | apply vo.xR | refine vo.far ?_ NB0_564.out _) | exact HI0.out)) hb) (aC (vx.trans (by repeat (first | (with_reducible first | exact HK.out | apply vx.yr | apply wl | apply wz | apply wn | refine xO ?_ GW564.out _) | exact HK.out)) (vx.of_below hb g none) (.inl rfl)) (aE (zr (by repeat (first | (with_reducible first | exact HB.out | apply vZ | apply vM | apply vG | refine wk ?_ (vo.ge HI0.out) | refine wk ?_ GE564.out) | exact HB.out)) hb)))); clear BK564 HI0 HK HB; obtain ⟨BK564, HI0, HK, HB⟩ := n_; have hX_ := hXk _ HK.out))
       go_ret2
       exact ⟨re, by repeat (first | (with_reducible first | exact HI0.out | apply vo.alloc | apply vo.drewN | apply vo.drew | apply vo.xT | apply vo.xR | refine vo.far ?_ NB0_564.out _) | exact HI0.out), by repeat (first | (with_reducible first | exact HB.out | apply vZ | apply vM | apply vG | refine wk ?_ (vo.ge HI0.out) | refine wk ?_ GE564.out) | exact HB.out), by repeat (first | (with_reducible first | exact HK.out | apply vx.yr | apply wl | apply wz | apply wn | refine xO ?_ GW564.out _) | exact HK.out)⟩
end Go.Proofs.YtknclbodinfbeaaDoor.PRunsSame
