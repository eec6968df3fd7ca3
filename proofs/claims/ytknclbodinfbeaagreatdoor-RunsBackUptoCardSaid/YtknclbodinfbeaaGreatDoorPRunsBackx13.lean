-- printed (wip/tools/myprint.py)
import Derived.Test.YtknclbodinfbeaaGreatDoorPRunsBackx0
import Derived.Test.YtknclbodinfbeaaGreatDoorPRunsBackx11
namespace Go.Proofs.YtknclbodinfbeaaGreatDoor.PRunsBack
open Go.RowKit Go.Proofs.YtknclbodinfbeaaGreatDoorW.PrintWords Go.Proofs.YtknclbodinfbeaaGreatDoorW.PrintLast Go.Proofs.YtknclbodinfbeaaGreatDoorW.PrintMore
attribute [local go_sem] yo ym yC yD xU xT yn yq
set_option linter.unusedVariables false
set_option linter.unusedSimpArgs false
set_option maxHeartbeats 8000000
set_option maxRecDepth 100000
def yN.f (e : List Int) (j : Int) (k : Bool) : Option (Int × Int × Bool) := (xA.f e j k).bind fun d => (if d.1 = true then (some (0, d.2.1, d.2.2)) else (some (wrap64 ((wrap64 (8 * (e.length : Int))) - d.2.1), d.2.1, d.2.2)))
theorem yN.calls (g : Nat) (j : List Int) (k : Int) (q : Bool) (r1 : Int) (r2 : Int) (r3 : Bool) (w0 w : World) (hI : vo w0 w g j k q) (hB : Below w0.heap.size w0 w) (h : yN.f j k q = some (r1, r2, r3)) :
  Calls Tryz.prog 97 #[.pointer (some ⟨g, 0, none⟩)] w fun e w' => e = .returned (.int .i64 r1) ∧ vo w0 w' g j r2 r3 ∧ Below w0.heap.size w0 w' ∧ vr w w' g none := by
 have d := aE hI
 have HK := aE (vr.refl w g none)
 have HL := aE hB.size
 clear hI
 have HW0 := aE hB.size
 have HB := aE hB
 clear hB
 have H := h
 unfold yN.f at H
 clear h
 obtain ⟨⟨B, r, s⟩, A2, H⟩ := oB H
 try dsimp only at H
 by_cases c3 : B = true
 ·subst c3
  rw [if_pos rfl] at H
  simp only [Option.some.injEq, Prod.mk.injEq] at H
  obtain ⟨rfl, rfl, rfl⟩ := H
  go_enter Tryz.func97, Tryz.ntmps97
  go_wp2_with (first | (go_at_call 62; (with_reducible refine (xA.calls g j k q true r s w0 _ ?side1 ?side2 A2.out).mono ?_); (case side1 => repeat (first | (with_reducible first | exact d.out | apply vo.alloc | apply vo.drewN | apply vo.drew | apply vo.xD | apply vo.xC) | exact d.out)); (case side2 => repeat (first | (with_reducible first | exact HB.out | apply vG | apply vz | apply vy | refine vW ?_ (vo.ge d.out)) | exact HB.out)); rintro e w4 ⟨rfl, hi, hb, hk⟩; have n_ := aC (vr.trans (by repeat (first | (with_reducible first | exact HK.out | apply vr.xQ | apply vI | apply vT | apply vH) | exact HK.out)) hk (.inl rfl)) (aC hb (aE hi)); clear HK HB d; obtain ⟨HK, HB, d⟩ := n_))
  go_ret
  exact ⟨re, by repeat (first | (with_reducible first | exact d.out | apply vo.alloc | apply vo.drewN | apply vo.drew | apply vo.xD | apply vo.xC) | exact d.out), by repeat (first | (with_reducible first | exact HB.out | apply vG | apply vz | apply vy | refine vW ?_ (vo.ge d.out)) | exact HB.out), by repeat (first | (with_reducible first | exact HK.out | apply vr.xQ | apply vI | apply vT | apply vH) | exact HK.out)⟩
 ·replace c3 := Bool.eq_false_iff.mpr c3
  subst c3
  rw [if_neg Bool.false_ne_true] at H
  simp only [Option.some.injEq, Prod.mk.injEq] at H
  obtain ⟨rfl, rfl, rfl⟩ := H
  go_enter Tryz.func97, Tryz.ntmps97
  go_wp2_with (first | (go_at_call 62; (with_reducible refine (xA.calls g j k q false r s w0 _ ?side1 ?side2 A2.out).mono ?_); (case side1 => repeat (first | (with_reducible first | exact d.out | apply vo.alloc | apply vo.drewN | apply vo.drew | apply vo.xD | apply vo.xC) | exact d.out)); (case side2 => repeat (first | (with_reducible first | exact HB.out | apply vG | apply vz | apply vy | refine vW ?_ (vo.ge d.out)) | exact HB.out)); rintro e w5 ⟨rfl, hi, hb, hk⟩; have n_ := aC (vr.trans (by repeat (first | (with_reducible first | exact HK.out | apply vr.xQ | apply vI | apply vT | apply vH) | exact HK.out)) hk (.inl rfl)) (aC hb (aE hi)); clear HK HB d; obtain ⟨HK, HB, d⟩ := n_; obtain ⟨ASz6_0, cSz6_0, HGz6, hgz6, HSz6_0⟩ := d.out; have t := jd HGz6; have u := je HGz6; have x := jc HGz6; have y := xh HGz6 1; have z := xh HGz6 2; clear HGz6 hgz6))
  repeat (go_quiet (first | (go_at_call 62; (with_reducible refine (xA.calls g j k q false r s w0 _ ?side1 ?side2 A2.out).mono ?_); (case side1 => repeat (first | (with_reducible first | exact d.out | apply vo.alloc | apply vo.drewN | apply vo.drew | apply vo.xD | apply vo.xC) | exact d.out)); (case side2 => repeat (first | (with_reducible first | exact HB.out | apply vG | apply vz | apply vy | refine vW ?_ (vo.ge d.out)) | exact HB.out)); rintro e w5 ⟨rfl, hi, hb, hk⟩; have n_ := aC (vr.trans (by repeat (first | (with_reducible first | exact HK.out | apply vr.xQ | apply vI | apply vT | apply vH) | exact HK.out)) hk (.inl rfl)) (aC hb (aE hi)); clear HK HB d; obtain ⟨HK, HB, d⟩ := n_; obtain ⟨ASz6_0, cSz6_0, HGz6, hgz6, HSz6_0⟩ := d.out; have t := jd HGz6; have u := je HGz6; have x := jc HGz6; have y := xh HGz6 1; have z := xh HGz6 2; clear HGz6 hgz6)); try go_wp2_with (first | (go_at_call 62; (with_reducible refine (xA.calls g j k q false r s w0 _ ?side1 ?side2 A2.out).mono ?_); (case side1 => repeat (first | (with_reducible first | exact d.out | apply vo.alloc | apply vo.drewN | apply vo.drew | apply vo.xD | apply vo.xC) | exact d.out)); (case side2 => repeat (first | (with_reducible first | exact HB.out | apply vG | apply vz | apply vy | refine vW ?_ (vo.ge d.out)) | exact HB.out)); rintro e w5 ⟨rfl, hi, hb, hk⟩; have n_ := aC (vr.trans (by repeat (first | (with_reducible first | exact HK.out | apply vr.xQ | apply vI | apply vT | apply vH) | exact HK.out)) hk (.inl rfl)) (aC hb (aE hi)); clear HK HB d; obtain ⟨HK, HB, d⟩ := n_; obtain ⟨ASz6_0, cSz6_0, HGz6, hgz6, HSz6_0⟩ := d.out; have t := jd HGz6; have u := je HGz6; have x := jc HGz6; have y := xh HGz6 1; have z := xh HGz6 2; clear HGz6 hgz6)))
  go_ret
  exact ⟨re, by repeat (first | (with_reducible first | exact d.out | apply vo.alloc | apply vo.drewN | apply vo.drew | apply vo.xD | apply vo.xC) | exact d.out), by repeat (first | (with_reducible first | exact HB.out | apply vG | apply vz | apply vy | refine vW ?_ (vo.ge d.out)) | exact HB.out), by repeat (first | (with_reducible first | exact HK.out | apply vr.xQ | apply vI | apply vT | apply vH) | exact HK.out)⟩
mutual
def vM.j0 : Nat → Int → Bool → List Int → Int → Bool → Option (Int × Int × Int × Bool)
 | 0, _, _, _, _, _ => none
 | k + 1, x1, r, e, j, q => if r = true then (some (0, 2, j, q)) else ((yN.f e j q).bind fun d => (if x1 > d.1 then (some (0, 6, d.2.1, d.2.2)) else (vM.l0 k 0 x1 0 e d.2.1 d.2.2)))
def vM.l0 : Nat → Int → Int → Int → List Int → Int → Bool → Option (Int × Int × Int × Bool)
 | 0, _, _, _, _, _, _ => none
 | k + 1, x6, q, r, e, d, j => if r < q then (if 0 ≤ (wrap64 (Int.tdiv d 8)) then (if (wrap64 (Int.tdiv d 8)) < (e.length : Int) then (if 0 ≤ (wrap64 (7 - (Int.tmod d 8))) then (vM.l0 k (wrap64 ((wrap64 (2 * x6)) + (wrap64 (Go.bits .and .u8 (shr .u8 (rd e (wrap64 (Int.tdiv d 8))) (wrap64 (7 - (Int.tmod d 8)))) 1)))) q (wrap64 (r + 1)) e (wrap64 (d + 1)) j) else (none)) else (none)) else (none)) else (some (x6, 0, d, j))
end
def vM.f (k : Nat) (e : List Int) (j : Int) (q : Bool) (a1 : Int) : Option (Int × Int × Int × Bool) := (xA.f e j q).bind fun d => (if d.1 = true then (some (0, 7, d.2.1, d.2.2)) else (if a1 < 0 then (vM.j0 k a1 true e d.2.1 d.2.2) else (vM.j0 k a1 (decide (a1 > 32)) e d.2.1 d.2.2)))
theorem vM.wt : ∀ k, (∀ y0 y1 y2 y3 y4, vK (vM.j0 k y0 y1 y2 y3 y4) (vM.j0 (k + 1) y0 y1 y2 y3 y4)) ∧ (∀ y0 y1 y2 y3 y4 y5, vK (vM.l0 k y0 y1 y2 y3 y4 y5) (vM.l0 (k + 1) y0 y1 y2 y3 y4 y5))
 | 0 => ⟨fun _ _ _ _ _ r h => by simp [vM.j0] at h, fun _ _ _ _ _ _ r h => by simp [vM.l0] at h⟩
 | k + 1 => by
  obtain ⟨ih0, ih1⟩ := vM.wt k
  refine ⟨?_, ?_⟩
  ·intro y0 y1 y2 y3 y4
   unfold vM.j0
   repeat' first
   | (with_reducible exact ih0 _ _ _ _ _)
   | (with_reducible exact ih1 _ _ _ _ _ _)
   | (with_reducible first | exact vK.refl _ | exact vK.none _ | apply vK.ite | apply vK.bind | intro)
  ·intro y0 y1 y2 y3 y4 y5
   unfold vM.l0
   repeat' first
   | (with_reducible exact ih0 _ _ _ _ _)
   | (with_reducible exact ih1 _ _ _ _ _ _)
   | (with_reducible first | exact vK.refl _ | exact vK.none _ | apply vK.ite | apply vK.bind | intro)
theorem vM.mono : ∀ a0 a1 a2 a3 k, vK (vM.f k a0 a1 a2 a3) (vM.f (k + 1) a0 a1 a2 a3) := by
 intro a0 a1 a2 a3 k
 obtain ⟨ih0, ih1⟩ := vM.wt k
 unfold vM.f
 repeat' first
   | (with_reducible exact ih0 _ _ _ _ _)
   | (with_reducible exact ih1 _ _ _ _ _ _)
   | (with_reducible first | exact vK.refl _ | exact vK.none _ | apply vK.ite | apply vK.bind | intro)
theorem vM.calls (k : Nat) (g : Nat) (q : List Int) (J : Int) (L : Bool) (a1 : Int) (r1 : Int) (r2 : Int) (r3 : Int) (r4 : Bool) (w0 w : World) (hI : vo w0 w g q J L) (hB : Below w0.heap.size w0 w) (h : vM.f k q J L a1 = some (r1, r2, r3, r4)) :
  Calls Tryz.prog 84 #[.pointer (some ⟨g, 0, none⟩), .int .i64 a1] w fun e w' => e = .returned (.tuple #[.int .i64 r1, .int .i64 r2]) ∧ vo w0 w' g q r3 r4 ∧ Below w0.heap.size w0 w' ∧ vr w w' g none := by
 have d := aE hI
 have HK := aE (vr.refl w g none)
 have HL := aE hB.size
 clear hI
 have HW0 := aE hB.size
 have HB := aE hB
 clear hB
 have H := h
 unfold vM.f at H
 clear h
 obtain ⟨⟨a5, z, B⟩, A3, H⟩ := oB H
 try dsimp only at H
 by_cases c4 : a5 = true
 ·subst c4
  rw [if_pos rfl] at H
  simp only [Option.some.injEq, Prod.mk.injEq] at H
  obtain ⟨rfl, rfl, rfl, rfl⟩ := H
  go_enter Tryz.func84, Tryz.ntmps84
  go_wp2_with (first | (go_at_call 62; (with_reducible refine (xA.calls g q J L true z B w0 _ ?side1 ?side2 A3.out).mono ?_); (case side1 => repeat (first | (with_reducible first | exact d.out | apply vo.alloc | apply vo.drewN | apply vo.drew | apply vo.xD | apply vo.xC) | exact d.out)); (case side2 => repeat (first | (with_reducible first | exact HB.out | apply vG | apply vz | apply vy | refine vW ?_ (vo.ge d.out)) | exact HB.out)); rintro e w5 ⟨rfl, hi, hb, hk⟩; have n_ := aC (vr.trans (by repeat (first | (with_reducible first | exact HK.out | apply vr.xQ | apply vI | apply vT | apply vH) | exact HK.out)) hk (.inl rfl)) (aC hb (aE hi)); clear HK HB d; obtain ⟨HK, HB, d⟩ := n_))
  go_ret2
  exact ⟨re, by repeat (first | (with_reducible first | exact d.out | apply vo.alloc | apply vo.drewN | apply vo.drew | apply vo.xD | apply vo.xC) | exact d.out), by repeat (first | (with_reducible first | exact HB.out | apply vG | apply vz | apply vy | refine vW ?_ (vo.ge d.out)) | exact HB.out), by repeat (first | (with_reducible first | exact HK.out | apply vr.xQ | apply vI | apply vT | apply vH) | exact HK.out)⟩
 ·replace c4 := Bool.eq_false_iff.mpr c4
  subst c4
  rw [if_neg Bool.false_ne_true] at H
  have a4 := aE H
  clear H
  go_enter Tryz.func84, Tryz.ntmps84
  go_upto_region 3 with (first | (go_at_call 62; (with_reducible refine (xA.calls g q J L false z B w0 _ ?side1 ?side2 A3.out).mono ?_); (case side1 => repeat (first | (with_reducible first | exact d.out | apply vo.alloc | apply vo.drewN | apply vo.drew | apply vo.xD | apply vo.xC) | exact d.out)); (case side2 => repeat (first | (with_reducible first | exact HB.out | apply vG | apply vz | apply vy | refine vW ?_ (vo.ge d.out)) | exact HB.out)); rintro e w7 ⟨rfl, hi, hb, hk⟩; have n_ := aC (vr.trans (by repeat (first | (with_reducible first | exact HK.out | apply vr.xQ | apply vI | apply vT | apply vH) | exact HK.out)) hk (.inl rfl)) (aC hb (aE hi)); clear HK HB d; obtain ⟨HK, HB, d⟩ := n_))
  (try simp only [Act.put, List.setIfInBounds_toArray, List.set_cons_zero, List.set_cons_succ])
  go_cut [10] (fun b9 wc => ∃ (kq : Nat) (D : Bool), b9 = .bool D ∧ Aside0 (vM.j0 kq a1 D q z B = some (r1, r2, r3, r4)) ∧ Aside0 (kq ≤ k) ∧ Aside0 (vo w0 wc g q z B) ∧ Aside0 (vr w wc g none) ∧ Aside0 (Below w0.heap.size w0 wc))
  case first =>
   have H := a4.out
   clear a4
   rcases iL H with H1 | H1 <;> clear H <;> obtain ⟨H, M⟩ := H1
   ·(first | rw [M] | (simp only [xS, zK]; rw [M]) | skip)
    have H' := aE H
    clear H
    go_wp2
    go_meet
    case rel => exact ⟨_, (true), rq, H', ⟨by first | omega | exact Nat.le_refl _⟩, ⟨by repeat (first | (with_reducible first | exact d.out | apply vo.alloc | apply vo.drewN | apply vo.drew | apply vo.xD | apply vo.xC) | exact d.out)⟩, ⟨by repeat (first | (with_reducible first | exact HK.out | apply vr.xQ | apply vI | apply vT | apply vH) | exact HK.out)⟩, ⟨by repeat (first | (with_reducible first | exact HB.out | apply vG | apply vz | apply vy | refine vW ?_ (vo.ge d.out)) | exact HB.out)⟩⟩
   ·(first | rw [M] | (simp only [xS, zK]; rw [M]) | skip)
    have H' := aE H
    clear H
    go_wp2
    go_meet
    case rel => exact ⟨_, (decide (a1 > 32)), rq, H', ⟨by first | omega | exact Nat.le_refl _⟩, ⟨by repeat (first | (with_reducible first | exact d.out | apply vo.alloc | apply vo.drewN | apply vo.drew | apply vo.xD | apply vo.xC) | exact d.out)⟩, ⟨by repeat (first | (with_reducible first | exact HK.out | apply vr.xQ | apply vI | apply vT | apply vH) | exact HK.out)⟩, ⟨by repeat (first | (with_reducible first | exact HB.out | apply vG | apply vz | apply vy | refine vW ?_ (vo.ge d.out)) | exact HB.out)⟩⟩
  case rest =>
   clear a4
   obtain ⟨kq, D, rfl, HA, a6, d, HK, HB⟩ := hcut
   cases kq with
   | zero => exact absurd HA.out (by simp [vM.j0])
   | succ kj5 =>
    have H := HA.out
    clear HA
    simp only [vM.j0] at H
    by_cases c9 : D = true
    ·subst c9
     rw [if_pos rfl] at H
     simp only [Option.some.injEq, Prod.mk.injEq] at H
     obtain ⟨rfl, rfl, rfl, rfl⟩ := H
     go_wp2
     go_ret2
     exact ⟨re, by repeat (first | (with_reducible first | exact d.out | apply vo.alloc | apply vo.drewN | apply vo.drew | apply vo.xD | apply vo.xC) | exact d.out), by repeat (first | (with_reducible first | exact HB.out | apply vG | apply vz | apply vy | refine vW ?_ (vo.ge d.out)) | exact HB.out), by repeat (first | (with_reducible first | exact HK.out | apply vr.xQ | apply vI | apply vT | apply vH) | exact HK.out)⟩
    ·replace c9 := Bool.eq_false_iff.mpr c9
     subst c9
     rw [if_neg Bool.false_ne_true] at H
     obtain ⟨⟨a3, T, u⟩, a7, H⟩ := oB H
     try dsimp only at H
     rcases iL H with H1 | H1 <;> clear H <;> obtain ⟨H, c0⟩ := H1
     ·simp only [Option.some.injEq, Prod.mk.injEq] at H
      obtain ⟨rfl, rfl, rfl, rfl⟩ := H
      go_wp2_with (first | (go_at_call 97; (with_reducible refine (yN.calls g q z B a3 T u w0 _ ?side1 ?side2 a7.out).mono ?_); (case side1 => repeat (first | (with_reducible first | exact d.out | apply vo.alloc | apply vo.drewN | apply vo.drew | apply vo.xD | apply vo.xC) | exact d.out)); (case side2 => repeat (first | (with_reducible first | exact HB.out | apply vG | apply vz | apply vy | refine vW ?_ (vo.ge d.out)) | exact HB.out)); rintro e d6 ⟨rfl, hi, hb, hk⟩; have n_ := aC (vr.trans (by repeat (first | (with_reducible first | exact HK.out | apply vr.xQ | apply vI | apply vT | apply vH) | exact HK.out)) hk (.inl rfl)) (aC hb (aE hi)); clear HK HB d; obtain ⟨HK, HB, d⟩ := n_))
      go_ret2
      exact ⟨re, by repeat (first | (with_reducible first | exact d.out | apply vo.alloc | apply vo.drewN | apply vo.drew | apply vo.xD | apply vo.xC) | exact d.out), by repeat (first | (with_reducible first | exact HB.out | apply vG | apply vz | apply vy | refine vW ?_ (vo.ge d.out)) | exact HB.out), by repeat (first | (with_reducible first | exact HK.out | apply vr.xQ | apply vI | apply vT | apply vH) | exact HK.out)⟩
     ·have H' := aE H
      clear H
      go_wp2_with (first | (go_at_call 97; (with_reducible refine (yN.calls g q z B a3 T u w0 _ ?side1 ?side2 a7.out).mono ?_); (case side1 => repeat (first | (with_reducible first | exact d.out | apply vo.alloc | apply vo.drewN | apply vo.drew | apply vo.xD | apply vo.xC) | exact d.out)); (case side2 => repeat (first | (with_reducible first | exact HB.out | apply vG | apply vz | apply vy | refine vW ?_ (vo.ge d.out)) | exact HB.out)); rintro e d7 ⟨rfl, hi, hb, hk⟩; have n_ := aC (vr.trans (by repeat (first | (with_reducible first | exact HK.out | apply vr.xQ | apply vI | apply vT | apply vH) | exact HK.out)) hk (.inl rfl)) (aC hb (aE hi)); clear HK HB d; obtain ⟨HK, HB, d⟩ := n_))
      go_loopg [6, 23] kj5 (fun kq v6 c1 w' => ∃ (x : Int) (s : Int) (j : Int), v6 = .int .i64 x ∧ c1 = .int .i64 s ∧ Aside0 (vM.l0 kq x a1 s q j u = some (r1, r2, r3, r4)) ∧ Aside0 (kq ≤ kj5) ∧ Aside0 (vo w0 w' g q j u) ∧ Aside0 (vr w w' g none) ∧ Aside0 (Below w0.heap.size w0 w'))
      case atStart => exact ⟨(0), (0), (T), rq, rq, H', ⟨Nat.le_refl _⟩, ⟨by repeat (first | (with_reducible first | exact d.out | apply vo.alloc | apply vo.drewN | apply vo.drew | apply vo.xD | apply vo.xC) | exact d.out)⟩, ⟨by repeat (first | (with_reducible first | exact HK.out | apply vr.xQ | apply vI | apply vT | apply vH) | exact HK.out)⟩, ⟨by repeat (first | (with_reducible first | exact HB.out | apply vG | apply vz | apply vy | refine vW ?_ (vo.ge d.out)) | exact HB.out)⟩⟩
      case round =>
       clear H'
       obtain ⟨x, s, j, rfl, rfl, HA, a8, d, HK, HB⟩ := hrel
       cases gk with
       | zero => exact absurd HA.out (by simp [vM.l0])
       | succ k2 =>
        have H := HA.out
        clear HA
        simp only [vM.l0] at H
        rcases iL H with H1 | H1 <;> clear H <;> obtain ⟨H, d0⟩ := H1
        ·obtain ⟨r, G⟩ : ∃ j_ : Int, (wrap64 (Int.tdiv j 8)) = j_ := ⟨_, rfl⟩
         replace H : (if 0 ≤ (r) then (if (r) < (q.length : Int) then (if 0 ≤ (wrap64 (7 - (Int.tmod j 8))) then (vM.l0 k2 (wrap64 ((wrap64 (2 * x)) + (wrap64 (Go.bits .and .u8 (shr .u8 (rd q (r)) (wrap64 (7 - (Int.tmod j 8)))) 1)))) a1 (wrap64 (s + 1)) q (wrap64 (j + 1)) u) else (none)) else (none)) else (none)) = some (r1, r2, r3, r4) := by first | (rw [G] at H; exact H) | (simp only [G] at H ⊢; exact H)
         have b5 : (IntKind.i64.wrap (Int.tdiv j 8)) = r := (xS _).trans G
         by_cases a0 : 0 ≤ (r)
         ·rw [if_pos a0] at H
          have d1 := decide_eq_true a0
          clear a0
          by_cases a2 : (r) < (q.length : Int)
          ·rw [if_pos a2] at H
           have d2 := decide_eq_true a2
           clear a2
           obtain ⟨t, I⟩ : ∃ j_ : Int, (wrap64 (7 - (Int.tmod j 8))) = j_ := ⟨_, rfl⟩
           replace H : (if 0 ≤ (t) then (vM.l0 k2 (wrap64 ((wrap64 (2 * x)) + (wrap64 (Go.bits .and .u8 (shr .u8 (rd q (r)) (t)) 1)))) a1 (wrap64 (s + 1)) q (wrap64 (j + 1)) u) else (none)) = some (r1, r2, r3, r4) := by first | (rw [I] at H; exact H) | (simp only [I] at H ⊢; exact H)
           have b6 : (IntKind.i64.wrap (7 - (Int.tmod j 8))) = t := (xS _).trans I
           by_cases X : 0 ≤ (t)
           ·rw [if_pos X] at H
            have d3 := eq_true X
            have d4 := decide_eq_true X
            clear X
            obtain ⟨O, y⟩ : ∃ j_ : Int, (shr .u8 (rd q (r)) (t)) = j_ := ⟨_, rfl⟩
            replace H : (vM.l0 k2 (wrap64 ((wrap64 (2 * x)) + (wrap64 (Go.bits .and .u8 (O) 1)))) a1 (wrap64 (s + 1)) q (wrap64 (j + 1)) u) = some (r1, r2, r3, r4) := by first | (rw [y] at H; exact H) | (simp only [y] at H ⊢; exact H)
            have b7 : ((rd q (r)) / 2 ^ min (t).toNat 8) = O := y
            have b8 : (t) ≤ 8 → ((rd q (r)) / 2 ^ (t).toNat) = O := kj y
            have H' := aE H
            clear H
            obtain ⟨ASz21_0, cSz21_0, HGz21, hgz21, HSz21_0⟩ := d.out
            have a9 := jd HGz21
            have b0 := je HGz21
            have b1 := jc HGz21
            have b2 := xh HGz21 1
            have b3 := xh HGz21 2
            clear HGz21 hgz21
            have Y : 0 ≤ ((r) : Int) := dt
            have Z : (r) < (q.length : Int) := dt
            obtain ⟨d5, b4, E⟩ := Kd.yc HSz21_0 (r) Y Z
            cases b4
            replace E := ji HB.out E
            replace Y := eq_true Y
            replace Z := eq_true Z
            go_wp2
            repeat (go_quiet (fail); try go_wp2)
            go_roundg k2
            case measure => have := a6.out; have := a8.out; omega
            case rel => exact ⟨(wrap64 ((wrap64 (2 * x)) + (wrap64 (Go.bits .and .u8 (O) 1)))), (wrap64 (s + 1)), (wrap64 (j + 1)), (by first | rfl | (simp; done) | (simp only [← y] <;> (first | rfl | simp)) | (simp [*]; done)), rq, H', ⟨by have := a6.out; have := a8.out; omega⟩, ⟨by repeat (first | (with_reducible first | exact d.out | apply vo.alloc | apply vo.drewN | apply vo.drew | apply vo.xD | apply vo.xC) | exact d.out)⟩, ⟨by repeat (first | (with_reducible first | exact HK.out | apply vr.xQ | apply vI | apply vT | apply vH) | exact HK.out)⟩, ⟨by repeat (first | (with_reducible first | exact HB.out | apply vG | apply vz | apply vy | refine vW ?_ (vo.ge d.out)) | exact HB.out)⟩⟩
           ·rw [if_neg X] at H
            exact nB H
          ·rw [if_neg a2] at H
           exact nB H
         ·rw [if_neg a0] at H
          exact nB H
        ·simp only [Option.some.injEq, Prod.mk.injEq] at H
         obtain ⟨rfl, rfl, rfl, rfl⟩ := H
         go_wp2
         go_ret2
         exact ⟨re, by repeat (first | (with_reducible first | exact d.out | apply vo.alloc | apply vo.drewN | apply vo.drew | apply vo.xD | apply vo.xC) | exact d.out), by repeat (first | (with_reducible first | exact HB.out | apply vG | apply vz | apply vy | refine vW ?_ (vo.ge d.out)) | exact HB.out), by repeat (first | (with_reducible first | exact HK.out | apply vr.xQ | apply vI | apply vT | apply vH) | exact HK.out)⟩
def vE.l0 : Nat → List ByteArray → ByteArray → Int → Int → Option (Int)
 | 0, _, _, _, _ => none
 | k + 1, x0, x1, x7, x8 => if x8 < x7 then (if 0 ≤ x8 then (if x8 < (x0.length : Int) then (if x1.toList = (jU ByteArray.empty x0 x8).toList then (some x8) else (vE.l0 k x0 x1 x7 (wrap64 (x8 + 1)))) else (none)) else (none)) else (some (-1))
def vE.f (k : Nat) (l0 : List ByteArray) (a1 : ByteArray) : Option (Int) := vE.l0 k l0 a1 (l0.length : Int) 0
theorem vE.wt : ∀ k, (∀ y0 y1 y2 y3, vK (vE.l0 k y0 y1 y2 y3) (vE.l0 (k + 1) y0 y1 y2 y3))
 | 0 => fun _ _ _ _ r h => by simp [vE.l0] at h
 | k + 1 => by
  have ih0 := vE.wt k
  ·intro y0 y1 y2 y3
   unfold vE.l0
   repeat' first
   | (with_reducible exact ih0 _ _ _ _)
   | (with_reducible first | exact vK.refl _ | exact vK.none _ | apply vK.ite | apply vK.bind | intro)
theorem vE.mono : ∀ a0 a1 k, vK (vE.f k a0 a1) (vE.f (k + 1) a0 a1) := by
 intro a0 a1 k
 have ih0 := vE.wt k
 unfold vE.f
 repeat' first
   | (with_reducible exact ih0 _ _ _ _)
   | (with_reducible first | exact vK.refl _ | exact vK.none _ | apply vK.ite | apply vK.bind | intro)
theorem vE.calls (k : Nat) (A0 : Option Addr) (c0 : Nat) (l0 : List ByteArray) (a1 : ByteArray) (r : Int) (w : World) (hr0 : Kd.C Kd.string w A0 l0.length l0) (x : l0.length ≤ c0) (h : vE.f k l0 a1 = some r) :
  Calls Tryz.prog 87 #[.slice A0 l0.length c0, .string a1] w fun e w' => e = .returned (.int .i64 r) ∧ wl w w' := by
 have y := aE hr0
 have J := aE x
 clear hr0 x
 have H : (vE.l0 k l0 a1 (l0.length : Int) 0) = some r := h
 clear h
 have H' := aE H
 clear H
 go_enter Tryz.func87, Tryz.ntmps87
 go_wp2
 go_loopg [8] k (fun kq v8 w' => ∃ (d : Int), v8 = .int .i64 d ∧ Aside0 (vE.l0 kq l0 a1 (l0.length : Int) d = some r) ∧ Aside0 (kq ≤ k) ∧ wl w w')
 case atStart => exact ⟨(0), rq, H', ⟨Nat.le_refl _⟩, by repeat (first | exact wl.refl _ | apply wl.step)⟩
 case round =>
  clear H'
  obtain ⟨d, rfl, HA, z, ⟨m1, rfl⟩⟩ := hrel
  cases gk with
  | zero => exact absurd HA.out (by simp [vE.l0])
  | succ k1 =>
   have H := HA.out
   clear HA
   simp only [vE.l0] at H
   rcases iL H with H1 | H1 <;> clear H <;> obtain ⟨H, B⟩ := H1
   ·by_cases c4 : 0 ≤ d
    ·rw [if_pos c4] at H
     have D := decide_eq_true c4
     clear c4
     by_cases c5 : d < (l0.length : Int)
     ·rw [if_pos c5] at H
      have E := decide_eq_true c5
      clear c5
      rcases iE H with H1 | H1 <;> clear H <;> obtain ⟨H, G, I, c6⟩ := H1
      ·obtain rfl := Option.some.inj H
       have j : 0 ≤ (d : Int) := dt
       have q : d < (l0.length : Int) := dt
       obtain ⟨u, s, t⟩ := Kd.zU y.out d j q
       cases s
       replace j := eq_true j
       replace q := eq_true q
       go_wp2
       go_ret
       exact ⟨by first | rfl | (simp; done) | (simp [*]; done), by repeat (first | exact wl.refl _ | apply wl.step)⟩
      ·have H' := aE H
       clear H
       have j : 0 ≤ (d : Int) := dt
       have q : d < (l0.length : Int) := dt
       obtain ⟨u, s, t⟩ := Kd.zU y.out d j q
       cases s
       replace j := eq_true j
       replace q := eq_true q
       go_wp2
       go_roundg k1
       case measure => have := z.out; omega
       case rel => exact ⟨(wrap64 (d + 1)), rq, H', ⟨by have := z.out; omega⟩, by repeat (first | exact wl.refl _ | apply wl.step)⟩
     ·rw [if_neg c5] at H
      exact nB H
    ·rw [if_neg c4] at H
     exact nB H
   ·obtain rfl := Option.some.inj H
    go_wp2
    go_ret
    exact ⟨by first | rfl | (simp; done) | (simp [*]; done), by repeat (first | exact wl.refl _ | apply wl.step)⟩
def stringslite_HasPrefix.f (a0 : ByteArray) (a1 : ByteArray) : Option (Bool) := if (a0.size : Int) ≥ (a1.size : Int) then (if 0 ≤ (a1.size : Int) then (if (a1.size : Int) ≤ (a0.size : Int) then (some ((a0.extract 0 ((a1.size : Int) : Int).toNat).toList == a1.toList)) else (none)) else (none)) else (some false)
theorem stringslite_HasPrefix.calls (a0 : ByteArray) (a1 : ByteArray) (r : Bool) (w : World) (h : stringslite_HasPrefix.f a0 a1 = some r) :
  Calls Tryz.prog 99 #[.string a0, .string a1] w fun e w' => e = .returned (.bool r) ∧ wl w w' := by
 have H := h
 unfold stringslite_HasPrefix.f at H
 clear h
 by_cases c3 : (a0.size : Int) ≥ (a1.size : Int)
 ·rw [if_pos c3] at H
  have d := decide_eq_true c3
  have j : decide (a1.size ≤ a0.size) = true := decide_eq_true (Int.ofNat_le.mp c3)
  clear c3
  by_cases c4 : 0 ≤ (a1.size : Int)
  ·rw [if_pos c4] at H
   have k := eq_true c4
   have q := decide_eq_true c4
   clear c4
   by_cases c5 : (a1.size : Int) ≤ (a0.size : Int)
   ·rw [if_pos c5] at H
    have s := eq_true c5
    have t := decide_eq_true c5
    clear c5
    obtain rfl := Option.some.inj H
    go_enter Tryz.func99, Tryz.ntmps99
    go_wp2
    go_ret
    exact ⟨by first | rfl | (simp; done) | (simp [*]; done), by repeat (first | exact wl.refl _ | apply wl.step)⟩
   ·rw [if_neg c5] at H
    exact nB H
  ·rw [if_neg c4] at H
   exact nB H
 ·rw [if_neg c3] at H
  have d := decide_eq_false c3
  have j : decide (a1.size ≤ a0.size) = false := decide_eq_false (fun h => c3 (Int.ofNat_le.mpr h))
  clear c3
  obtain rfl := Option.some.inj H
  go_enter Tryz.func99, Tryz.ntmps99
  go_wp2
  go_ret
  exact ⟨by first | rfl | (simp; done) | (simp [*]; done), by repeat (first | exact wl.refl _ | apply wl.step)⟩
def strings_HasPrefix.f (a0 : ByteArray) (a1 : ByteArray) : Option (Bool) := (stringslite_HasPrefix.f a0 a1).bind fun d => (some d)
theorem strings_HasPrefix.calls (a0 : ByteArray) (a1 : ByteArray) (r : Bool) (w : World) (h : strings_HasPrefix.f a0 a1 = some r) :
  Calls Tryz.prog 90 #[.string a0, .string a1] w fun e w' => e = .returned (.bool r) ∧ wl w w' := by
 have H : ((stringslite_HasPrefix.f a0 a1).bind fun d => (some d)) = some r := h
 clear h
 obtain ⟨d, A3, H⟩ := oB H
 try dsimp only at H
 obtain rfl := Option.some.inj H
 go_enter Tryz.func90, Tryz.ntmps90
 go_wp2_with (first | ((with_reducible refine gf 99 rfl ?_); refine gL (some 7) rfl rfl Tryz.func99 rfl #[.string a0, .string a1] rfl ?_; (with_reducible refine (stringslite_HasPrefix.calls a0 a1 d _ A3.out).mono ?_); rintro e w' ⟨rfl, ⟨nd, rfl⟩⟩; refine ⟨_, rfl, ?_⟩))
 go_ret
 exact ⟨by first | rfl | (simp; done) | (simp [*]; done), by repeat (first | exact wl.refl _ | apply wl.step)⟩
def zj.f (a0 : ByteArray) (d : ByteArray) : Option (Bool) := (strings_HasPrefix.f a0 d).bind fun e => (some e)
theorem zj.calls (a0 : ByteArray) (k : Nat) (d : ByteArray) (r : Bool) (w : World) (hbx1_0 : w.heap[k]? = some (.cells #[.string d] 9 (0, 0))) (h : zj.f a0 d = some r) :
  Calls Tryz.prog 89 #[.string a0, .pointer (some ⟨k, 0, none⟩)] w fun e w' => e = .returned (.bool r) ∧ Below w.heap.size w w' := by
 have q := aE hbx1_0
 clear hbx1_0
 have HB := bR w
 have H : ((strings_HasPrefix.f a0 d).bind fun j => (some j)) = some r := h
 clear h
 obtain ⟨j, A3, H⟩ := oB H
 try dsimp only at H
 obtain rfl := Option.some.inj H
 obtain ⟨s, t⟩ := cz1f q.out
 go_enter Tryz.func89, Tryz.ntmps89
 go_wp2_with (first | ((with_reducible refine gf 90 rfl ?_); refine gL (some 6) rfl rfl Tryz.func90 rfl #[.string a0, .string d] rfl ?_; (with_reducible refine (strings_HasPrefix.calls a0 d j _ A3.out).mono ?_); rintro e w' ⟨rfl, ⟨nd, rfl⟩⟩; refine ⟨_, rfl, ?_⟩))
 go_ret
 exact ⟨re, bl⟩
def vD.l0 : Nat → List ByteArray → Int → Int → ByteArray → Option (Int)
 | 0, _, _, _, _ => none
 | k + 1, x0, x7, x8, d => if x8 < x7 then (if 0 ≤ x8 then (if x8 < (x0.length : Int) then ((zj.f (jU ByteArray.empty x0 x8) d).bind fun e => (if e = true then (some x8) else (vD.l0 k x0 x7 (wrap64 (x8 + 1)) d))) else (none)) else (none)) else (some (-1))
def vD.f (k : Nat) (l0 : List ByteArray) (d : ByteArray) : Option (Int) := vD.l0 k l0 (l0.length : Int) 0 d
theorem vD.wt : ∀ k, (∀ y0 y1 y2 y3, vK (vD.l0 k y0 y1 y2 y3) (vD.l0 (k + 1) y0 y1 y2 y3))
 | 0 => fun _ _ _ _ r h => by simp [vD.l0] at h
 | k + 1 => by
  have ih0 := vD.wt k
  ·intro y0 y1 y2 y3
   unfold vD.l0
   repeat' first
   | (with_reducible exact ih0 _ _ _ _)
   | (with_reducible first | exact vK.refl _ | exact vK.none _ | apply vK.ite | apply vK.bind | intro)
theorem vD.mono : ∀ a0 a1 k, vK (vD.f k a0 a1) (vD.f (k + 1) a0 a1) := by
 intro a0 a1 k
 have ih0 := vD.wt k
 unfold vD.f
 repeat' first
   | (with_reducible exact ih0 _ _ _ _)
   | (with_reducible first | exact vK.refl _ | exact vK.none _ | apply vK.ite | apply vK.bind | intro)
theorem vD.calls (k : Nat) (A0 : Option Addr) (c0 : Nat) (l0 : List ByteArray) (s : Nat) (t : ByteArray) (r : Int) (w : World) (hr0 : Kd.C Kd.string w A0 l0.length l0) (B : l0.length ≤ c0) (hbx1_0 : w.heap[s]? = some (.cells #[.string t] 9 (0, 0))) (h : vD.f k l0 t = some r) :
  Calls Tryz.prog 98 #[.slice A0 l0.length c0, .func (.func 89) #[] #[.pointer (some ⟨s, 0, none⟩)]] w fun e w' => e = .returned (.int .i64 r) ∧ Below w.heap.size w w' := by
 have D := aE hr0
 have M := aE B
 clear hr0 B
 have j := aE hbx1_0
 clear hbx1_0
 have HB := bR w
 have H : (vD.l0 k l0 (l0.length : Int) 0 t) = some r := h
 clear h
 have H' := aE H
 clear H
 go_enter Tryz.func98, Tryz.ntmps98
 go_wp2
 go_loopg [8] k (fun kq v8 w' => ∃ (d : Int), v8 = .int .i64 d ∧ Aside0 (vD.l0 kq l0 (l0.length : Int) d t = some r) ∧ Aside0 (kq ≤ k) ∧ Aside0 (w'.heap[s]? = some (.cells #[.string t] 9 (0, 0))) ∧ Aside0 (Below w.heap.size w w'))
 case atStart => exact ⟨(0), rq, H', ⟨Nat.le_refl _⟩, ⟨bU j.out⟩, ⟨bl⟩⟩
 case round =>
  clear H'
  obtain ⟨d, rfl, HA, E, j, HB⟩ := hrel
  cases gk with
  | zero => exact absurd HA.out (by simp [vD.l0])
  | succ k1 =>
   have H := HA.out
   clear HA
   simp only [vD.l0] at H
   rcases iL H with H1 | H1 <;> clear H <;> obtain ⟨H, I⟩ := H1
   ·by_cases c4 : 0 ≤ d
    ·rw [if_pos c4] at H
     have J := decide_eq_true c4
     clear c4
     by_cases c5 : d < (l0.length : Int)
     ·rw [if_pos c5] at H
      have L := decide_eq_true c5
      clear c5
      obtain ⟨G, A6, H⟩ := oB H
      try dsimp only at H
      by_cases c7 : G = true
      ·subst c7
       rw [if_pos rfl] at H
       obtain rfl := Option.some.inj H
       have u : 0 ≤ (d : Int) := dt
       have x : d < (l0.length : Int) := dt
       obtain ⟨z, y, q⟩ := Kd.zU D.out d u x
       cases y
       replace q := hcB HB.out q
       replace u := eq_true u
       replace x := eq_true x
       go_wp2_with (first | ((with_reducible refine zN rfl ?_); refine jX (some 16) rfl rfl Tryz.func89 (by kernel_rfl) rfl #[.string (jU ByteArray.empty l0 d), .pointer (some ⟨s, 0, none⟩)] rfl rfl (by (try simp only [List.map_toArray, List.map_cons, List.map_nil]); first | done | rfl | (simp only [List.length_drop, List.length_take]; rfl)) ?_; (with_reducible refine (zj.calls (jU ByteArray.empty l0 d) s t true _ ?side1 A6.out).mono ?_); (case side1 => exact bU j.out); rintro e w8 ⟨rfl, hb⟩; refine ⟨_, rfl, ?_⟩; have n_ := aC (vp (bU j.out) hb) (aE (bs hb)); clear j HB; obtain ⟨j, HB⟩ := n_))
       go_ret
       exact ⟨re, bl⟩
      ·replace c7 := Bool.eq_false_iff.mpr c7
       subst c7
       rw [if_neg Bool.false_ne_true] at H
       have H' := aE H
       clear H
       have u : 0 ≤ (d : Int) := dt
       have x : d < (l0.length : Int) := dt
       obtain ⟨z, y, q⟩ := Kd.zU D.out d u x
       cases y
       replace q := hcB HB.out q
       replace u := eq_true u
       replace x := eq_true x
       go_wp2_with (first | ((with_reducible refine zN rfl ?_); refine jX (some 16) rfl rfl Tryz.func89 (by kernel_rfl) rfl #[.string (jU ByteArray.empty l0 d), .pointer (some ⟨s, 0, none⟩)] rfl rfl (by (try simp only [List.map_toArray, List.map_cons, List.map_nil]); first | done | rfl | (simp only [List.length_drop, List.length_take]; rfl)) ?_; (with_reducible refine (zj.calls (jU ByteArray.empty l0 d) s t false _ ?side1 A6.out).mono ?_); (case side1 => exact bU j.out); rintro e w9 ⟨rfl, hb⟩; refine ⟨_, rfl, ?_⟩; have n_ := aC (vp (bU j.out) hb) (aE (bs hb)); clear j HB; obtain ⟨j, HB⟩ := n_))
       go_roundg k1
       case measure => have := E.out; omega
       case rel => exact ⟨(wrap64 (d + 1)), rq, H', ⟨by have := E.out; omega⟩, ⟨bU j.out⟩, ⟨bl⟩⟩
     ·rw [if_neg c5] at H
      exact nB H
    ·rw [if_neg c4] at H
     exact nB H
   ·obtain rfl := Option.some.inj H
    go_wp2
    go_ret
    exact ⟨re, bl⟩
def vX.f (k : Nat) (l0 : List ByteArray) (d : ByteArray) : Option (Bool) := (vD.f k l0 d).bind fun e => (some (decide (e ≥ 0)))
theorem vX.mono : ∀ a0 a1 k, vK (vX.f k a0 a1) (vX.f (k + 1) a0 a1) := by
 intro a0 a1 k
 unfold vX.f
 repeat' first
   | (with_reducible exact vD.mono _ _ _)
   | (with_reducible first | exact vK.refl _ | exact vK.none _ | apply vK.ite | apply vK.bind | intro)
theorem vX.calls (k : Nat) (A0 : Option Addr) (c0 : Nat) (l0 : List ByteArray) (j : Nat) (q : ByteArray) (r : Bool) (w : World) (hr0 : Kd.C Kd.string w A0 l0.length l0) (t : l0.length ≤ c0) (hbx1_0 : w.heap[j]? = some (.cells #[.string q] 9 (0, 0))) (h : vX.f k l0 q = some r) :
  Calls Tryz.prog 88 #[.slice A0 l0.length c0, .func (.func 89) #[] #[.pointer (some ⟨j, 0, none⟩)]] w fun e w' => e = .returned (.bool r) ∧ Below w.heap.size w w' := by
 have u := aE hr0
 have x := aE t
 clear hr0 t
 have d := aE hbx1_0
 clear hbx1_0
 have HB := bR w
 have H : ((vD.f k l0 q).bind fun s => (some (decide (s ≥ 0)))) = some r := h
 clear h
 obtain ⟨s, A3, H⟩ := oB H
 try dsimp only at H
 obtain rfl := Option.some.inj H
 go_enter Tryz.func88, Tryz.ntmps88
 go_wp2_with (first | ((with_reducible refine gf 98 rfl ?_); refine gL (some 7) rfl rfl Tryz.func98 rfl #[.slice A0 l0.length c0, .func (.func 89) #[] #[.pointer (some ⟨j, 0, none⟩)]] rfl ?_; (with_reducible refine (vD.calls k _ _ l0 j q s _ ?side1 ?side2 ?side3 A3.out).mono ?_); (case side1 => exact cU u.out); (case side2 => exact x.out); (case side3 => exact bU d.out); rintro e w4 ⟨rfl, hb⟩; refine ⟨_, rfl, ?_⟩; have n_ := aC (vp (bU d.out) hb) (aE (bs hb)); clear d HB; obtain ⟨d, HB⟩ := n_))
 go_ret
 exact ⟨re, bl⟩
set_option maxHeartbeats 8000000
set_option maxRecDepth 100000
mutual
def vR.l0 : Nat → List ByteArray → List Int → Int → Bool → ByteArray → Option (Int × Int × Int × Bool)
 | 0, _, _, _, _, _ => none
 | k + 1, x1, e, j, q, d => (vE.f k x1 d).bind fun r => (if r ≥ 0 then (vR.j1 k x1 r (d.toList != ([] : List UInt8)) e j q d) else (vR.j1 k x1 r false e j q d))
def vR.j1 : Nat → List ByteArray → Int → Bool → List Int → Int → Bool → ByteArray → Option (Int × Int × Int × Bool)
 | 0, _, _, _, _, _, _, _ => none
 | k + 1, x1, x7, t, r, j, q, e => if t = true then (some (x7, 0, j, q)) else ((vX.f k x1 e).bind fun s => (if s = true then ((vM.f k r j q 1).bind fun d => (if d.2.1 = 0 then (if e.size + (Utf8.encode (wrap32 (48 + (wrap32 (d.1))))).size ≤ 9223372036854775807 then (vR.l0 k x1 r d.2.2.1 d.2.2.2 (e ++ (Utf8.encode (wrap32 (48 + (wrap32 (d.1))))))) else (none)) else (some (0, d.2.1, d.2.2.1, d.2.2.2)))) else (some (0, 3, j, q))))
end
def vR.f (k : Nat) (d : List Int) (e : Int) (j : Bool) (l1 : List ByteArray) : Option (Int × Int × Int × Bool) := vR.l0 k l1 d e j (⟨#[]⟩ : ByteArray)
theorem vR.wt : ∀ k, (∀ y0 y1 y2 y3 y4, vK (vR.l0 k y0 y1 y2 y3 y4) (vR.l0 (k + 1) y0 y1 y2 y3 y4)) ∧ (∀ y0 y1 y2 y3 y4 y5 y6, vK (vR.j1 k y0 y1 y2 y3 y4 y5 y6) (vR.j1 (k + 1) y0 y1 y2 y3 y4 y5 y6))
 | 0 => ⟨fun _ _ _ _ _ r h => by simp [vR.l0] at h, fun _ _ _ _ _ _ _ r h => by simp [vR.j1] at h⟩
 | k + 1 => by
  obtain ⟨ih0, ih1⟩ := vR.wt k
  refine ⟨?_, ?_⟩
  ·intro y0 y1 y2 y3 y4
   unfold vR.l0
   repeat' first
   | (with_reducible exact ih0 _ _ _ _ _)
   | (with_reducible exact ih1 _ _ _ _ _ _ _)
   | (with_reducible exact vM.mono _ _ _ _ _)
   | (with_reducible exact vX.mono _ _ _)
   | (with_reducible exact vE.mono _ _ _)
   | (with_reducible first | exact vK.refl _ | exact vK.none _ | apply vK.ite | apply vK.bind | intro)
  ·intro y0 y1 y2 y3 y4 y5 y6
   unfold vR.j1
   repeat' first
   | (with_reducible exact ih0 _ _ _ _ _)
   | (with_reducible exact ih1 _ _ _ _ _ _ _)
   | (with_reducible exact vM.mono _ _ _ _ _)
   | (with_reducible exact vX.mono _ _ _)
   | (with_reducible exact vE.mono _ _ _)
   | (with_reducible first | exact vK.refl _ | exact vK.none _ | apply vK.ite | apply vK.bind | intro)
theorem vR.mono : ∀ a0 a1 a2 a3 k, vK (vR.f k a0 a1 a2 a3) (vR.f (k + 1) a0 a1 a2 a3) := by
 intro a0 a1 a2 a3 k
 obtain ⟨ih0, ih1⟩ := vR.wt k
 unfold vR.f
 repeat' first
   | (with_reducible exact ih0 _ _ _ _ _)
   | (with_reducible exact ih1 _ _ _ _ _ _ _)
   | (with_reducible exact vM.mono _ _ _ _ _)
   | (with_reducible exact vX.mono _ _ _)
   | (with_reducible exact vE.mono _ _ _)
   | (with_reducible first | exact vK.refl _ | exact vK.none _ | apply vK.ite | apply vK.bind | intro)
theorem vR.calls (k : Nat) (g : Nat) (B : List Int) (D : Int) (E : Bool) (A1 : Option Addr) (c1 : Nat) (l1 : List ByteArray) (r1 : Int) (r2 : Int) (r3 : Int) (r4 : Bool) (w0 w : World) (hI : vo w0 w g B D E) (hB : Below w0.heap.size w0 w) (hr1 : Kd.C Kd.string w A1 l1.length l1) (a5 : l1.length ≤ c1) (hf1 : ∀ ad, A1 = some ad → 0 < l1.length → ad.block ≠ g) (gx : Nat) (hXk : ∀ W_ : World, vr w W_ g none → W_.cell? ⟨gx, 0, none⟩ = some (.pointer (some ⟨g, 0, none⟩))) (h : vR.f k B D E l1 = some (r1, r2, r3, r4)) :
  Calls Tryz.prog 65 #[.pointer (some ⟨gx, 0, none⟩), .slice A1 l1.length c1] w fun e w' => e = .returned (.tuple #[.int .i64 r1, .int .i64 r2]) ∧ vo w0 w' g B r3 r4 ∧ Below w0.heap.size w0 w' ∧ vr w w' g none := by
 have hu84 := Tryz.underlying84
 have T := aE hr1
 have X := aE a5
 clear hr1 a5
 have j := aE hI
 have HK := aE (vr.refl w g none)
 have HL := aE hB.size
 clear hI
 have HW0 := aE hB.size
 have HB := aE hB
 clear hB
 have H : (vR.l0 k l1 B D E (⟨#[]⟩ : ByteArray)) = some (r1, r2, r3, r4) := h
 clear h
 have H' := aE H
 clear H
 go_enter Tryz.func65, Tryz.ntmps65
 have hX_ := hXk _ HK.out
 go_wp2_with (first | ((with_reducible refine gd 6 rfl ?_); refine bx 6 #[.string (⟨#[]⟩ : ByteArray)] 9 rfl rfl ?_; intro t hg w3 hbox hb; have n_ := aC (vo.below (by repeat (first | (with_reducible first | exact j.out | apply vo.alloc | apply vo.drewN | apply vo.drew | apply vo.xD | apply vo.xC) | exact j.out)) hb) (aC (vr.trans (by repeat (first | (with_reducible first | exact HK.out | apply vr.xQ | apply vI | apply vT | apply vH) | exact HK.out)) (vr.of_below hb g none) (.inl rfl)) (aC (xu (by repeat (first | (with_reducible first | exact HB.out | apply vG | apply vz | apply vy | refine vW ?_ (vo.ge j.out)) | exact HB.out)) hb) (aC hbox (aC ((by rw [hg]; exact (zl (w := w) (g := g) (row := none) (by repeat (first | (with_reducible first | exact HK.out | apply vr.xQ | apply vI | apply vT | apply vH) | exact HK.out))) : w.heap.size ≤ t)) (aC ((Nat.le_trans HW0.out (by rw [hg]; exact (zl (w := w) (g := g) (row := none) (by repeat (first | (with_reducible first | exact HK.out | apply vr.xQ | apply vI | apply vT | apply vH) | exact HK.out))) : w.heap.size ≤ t) : w0.heap.size ≤ t)) (aC ((by rw [hg]; exact Nat.ne_of_lt (vo.lt (show vo w0 _ g B D E from by repeat (first | (with_reducible first | exact j.out | apply vo.alloc | apply vo.drewN | apply vo.drew | apply vo.xD | apply vo.xC) | exact j.out))) : g ≠ t)) (aE ((by rw [hg]; exact Nat.ne_of_gt (vo.lt (show vo w0 _ g B D E from by repeat (first | (with_reducible first | exact j.out | apply vo.alloc | apply vo.drewN | apply vo.drew | apply vo.xD | apply vo.xC) | exact j.out))) : t ≠ g))))))))); clear j HK HB; obtain ⟨j, HK, HB, q, s, u, r, z⟩ := n_; clear hb hbox hg; have d6 := z.out; have d7 := r.out; obtain ⟨b3, b4⟩ := cz1f q.out; have hX_ := hXk _ HK.out))
 go_loopg [] k (fun kq w' => ∃ (x : Int) (y : Bool) (d : ByteArray), Aside0 (vR.l0 kq l1 B x y d = some (r1, r2, r3, r4)) ∧ Aside0 (kq ≤ k) ∧ Aside0 (w'.heap[t]? = some (.cells #[.string d] 9 (0, 0))) ∧ Aside0 (vo w0 w' g B x y) ∧ Aside0 (vr w w' g none) ∧ Aside0 (Below w0.heap.size w0 w'))
 case atStart => exact ⟨(D), (E), ((⟨#[]⟩ : ByteArray)), H', ⟨Nat.le_refl _⟩, ⟨by (with_reducible repeat first | apply vm | apply vn | apply vl); refine vt (cs := #[.string (⟨#[]⟩ : ByteArray)]) ?_ 0 _ rfl; (with_reducible repeat first | apply vm | apply vn | apply vl); exact q.out⟩, ⟨by repeat (first | (with_reducible first | exact j.out | apply vo.alloc | apply vo.drewN | apply vo.drew | apply vo.xD | apply vo.xC | refine vo.far ?_ r.out _) | exact j.out)⟩, ⟨by repeat (first | (with_reducible first | exact HK.out | apply vr.xQ | apply vI | apply vT | apply vH | refine yd ?_ s.out _) | exact HK.out)⟩, ⟨by repeat (first | (with_reducible first | exact HB.out | apply vG | apply vz | apply vy | refine vW ?_ (vo.ge j.out) | refine vW ?_ u.out) | exact HB.out)⟩⟩
 case round =>
  clear H'
  try clear c1
  obtain ⟨x, y, d, HA, Y, q, j, HK, HB⟩ := hrel
  cases gk with
  | zero => exact absurd HA.out (by simp [vR.l0])
  | succ k1 =>
   have H := HA.out
   clear HA
   simp only [vR.l0] at H
   obtain ⟨a1, A6, H⟩ := oB H
   try dsimp only at H
   have a3 := aE H
   clear H
   have d8 := z.out
   have d9 := r.out
   obtain ⟨b5, b6⟩ := cz1f q.out
   have hX_ := hXk _ HK.out
   go_upto_region 3 with (first | ((with_reducible refine gf 87 rfl ?_); refine gL (some 12) rfl rfl Tryz.func87 rfl #[.slice A1 l1.length c1, .string d] rfl ?_; (with_reducible refine (vE.calls k1 _ _ l1 d a1 _ ?side1 ?side2 A6.out).mono ?_); (case side1 => exact Kd.ql (⟨#[]⟩ : ByteArray) T.out (by repeat (first | (with_reducible first | exact HK.out | apply vr.xQ | apply vI | apply vT | apply vH | refine yd ?_ s.out _) | exact HK.out)) hf1); (case side2 => exact X.out); rintro e w' ⟨rfl, ⟨nd, rfl⟩⟩; refine ⟨_, rfl, ?_⟩))
   (try simp only [Act.put, List.setIfInBounds_toArray, List.set_cons_zero, List.set_cons_succ])
   go_cut [18] (fun b7 wc => ∃ (kq : Nat) (G : Bool), b7 = .bool G ∧ Aside0 (vR.j1 kq l1 a1 G B x y d = some (r1, r2, r3, r4)) ∧ Aside0 (kq ≤ k1) ∧ Aside0 (wc.heap[t]? = some (.cells #[.string d] 9 (0, 0))) ∧ Aside0 (vo w0 wc g B x y) ∧ Aside0 (vr w wc g none) ∧ Aside0 (Below w0.heap.size w0 wc))
   case first =>
    have H := a3.out
    clear a3
    rcases iL H with H1 | H1 <;> clear H <;> obtain ⟨H, I⟩ := H1
    ·(first | rw [I] | (simp only [xS, zK]; rw [I]) | skip)
     have H' := aE H
     clear H
     have b8 := z.out
     have b9 := r.out
     obtain ⟨a6, a7⟩ := cz1f q.out
     have hX_ := hXk _ HK.out
     go_wp2
     go_meet
     case rel => exact ⟨_, ((d.toList != ([] : List UInt8))), rq, H', ⟨by have := Y.out; first | omega | exact Nat.le_refl _⟩, ⟨bU q.out⟩, ⟨by repeat (first | (with_reducible first | exact j.out | apply vo.alloc | apply vo.drewN | apply vo.drew | apply vo.xD | apply vo.xC | refine vo.far ?_ r.out _) | exact j.out)⟩, ⟨by repeat (first | (with_reducible first | exact HK.out | apply vr.xQ | apply vI | apply vT | apply vH | refine yd ?_ s.out _) | exact HK.out)⟩, ⟨by repeat (first | (with_reducible first | exact HB.out | apply vG | apply vz | apply vy | refine vW ?_ (vo.ge j.out) | refine vW ?_ u.out) | exact HB.out)⟩⟩
    ·(first | rw [I] | (simp only [xS, zK]; rw [I]) | skip)
     have H' := aE H
     clear H
     have hX_ := hXk _ HK.out
     go_wp2
     go_meet
     case rel => exact ⟨_, (false), rq, H', ⟨by have := Y.out; first | omega | exact Nat.le_refl _⟩, ⟨bU q.out⟩, ⟨by repeat (first | (with_reducible first | exact j.out | apply vo.alloc | apply vo.drewN | apply vo.drew | apply vo.xD | apply vo.xC | refine vo.far ?_ r.out _) | exact j.out)⟩, ⟨by repeat (first | (with_reducible first | exact HK.out | apply vr.xQ | apply vI | apply vT | apply vH | refine yd ?_ s.out _) | exact HK.out)⟩, ⟨by repeat (first | (with_reducible first | exact HB.out | apply vG | apply vz | apply vy | refine vW ?_ (vo.ge j.out) | refine vW ?_ u.out) | exact HB.out)⟩⟩
   case rest =>
    clear a3
    try clear c1
    obtain ⟨kq, G, rfl, HA, a8, q, j, HK, HB⟩ := hcut
    cases kq with
    | zero => exact absurd HA.out (by simp [vR.j1])
    | succ kj6 =>
     have H := HA.out
     clear HA
     simp only [vR.j1] at H
     by_cases Z : G = true
     ·subst Z
      rw [if_pos rfl] at H
      simp only [Option.some.injEq, Prod.mk.injEq] at H
      obtain ⟨rfl, rfl, rfl, rfl⟩ := H
      have hX_ := hXk _ HK.out
      go_wp2
      go_ret2
      exact ⟨re, by repeat (first | (with_reducible first | exact j.out | apply vo.alloc | apply vo.drewN | apply vo.drew | apply vo.xD | apply vo.xC | refine vo.far ?_ r.out _) | exact j.out), by repeat (first | (with_reducible first | exact HB.out | apply vG | apply vz | apply vy | refine vW ?_ (vo.ge j.out) | refine vW ?_ u.out) | exact HB.out), by repeat (first | (with_reducible first | exact HK.out | apply vr.xQ | apply vI | apply vT | apply vH | refine yd ?_ s.out _) | exact HK.out)⟩
     ·replace Z := Bool.eq_false_iff.mpr Z
      subst Z
      rw [if_neg Bool.false_ne_true] at H
      obtain ⟨a9, a4, H⟩ := oB H
      try dsimp only at H
      by_cases a0 : a9 = true
      ·subst a0
       rw [if_pos rfl] at H
       obtain ⟨⟨J, a2, L, M⟩, b0, H⟩ := oB H
       try dsimp only at H
       rcases iE H with H1 | H1 <;> clear H <;> obtain ⟨H, c0, d0, e0⟩ := H1
       ·by_cases O : d.size + (Utf8.encode (wrap32 (48 + (wrap32 (J))))).size ≤ 9223372036854775807
        ·rw [if_pos O] at H
         have d1 := eq_true O
         have d2 := decide_eq_true O
         try have d3 : (9223372036854775807 < d.size + (Utf8.encode (wrap32 (48 + (wrap32 (J))))).size) = False := eq_false (Nat.not_lt.2 O)
         have H' := aE H
         clear H
         have hX_ := hXk _ HK.out
         go_wp2_with (first | ((with_reducible refine gf 88 rfl ?_); refine gL (some 22) rfl rfl Tryz.func88 rfl #[.slice A1 l1.length c1, .func (.func 89) #[] #[.pointer (some ⟨t, 0, none⟩)]] rfl ?_; (with_reducible refine (vX.calls kj6 _ _ l1 t d true _ ?side1 ?side2 ?side3 a4.out).mono ?_); (case side1 => exact Kd.ql (⟨#[]⟩ : ByteArray) T.out (by repeat (first | (with_reducible first | exact HK.out | apply vr.xQ | apply vI | apply vT | apply vH | refine yd ?_ s.out _) | exact HK.out)) hf1); (case side2 => exact X.out); (case side3 => exact bU q.out); rintro e e1 ⟨rfl, hb⟩; refine ⟨_, rfl, ?_⟩; have n_ := aC (vp (bU q.out) hb) (aC (vo.below (by repeat (first | (with_reducible first | exact j.out | apply vo.alloc | apply vo.drewN | apply vo.drew | apply vo.xD | apply vo.xC | refine vo.far ?_ r.out _) | exact j.out)) hb) (aC (vr.trans (by repeat (first | (with_reducible first | exact HK.out | apply vr.xQ | apply vI | apply vT | apply vH | refine yd ?_ s.out _) | exact HK.out)) (vr.of_below hb g none) (.inl rfl)) (aE (xu (by repeat (first | (with_reducible first | exact HB.out | apply vG | apply vz | apply vy | refine vW ?_ (vo.ge j.out) | refine vW ?_ u.out) | exact HB.out)) hb)))); clear q j HK HB; obtain ⟨q, j, HK, HB⟩ := n_; have hX_ := hXk _ HK.out) | ((with_reducible refine gf 84 rfl ?_); refine gL (some 29) rfl rfl Tryz.func84 rfl #[.pointer (some ⟨g, 0, none⟩), .int .i64 1] rfl ?_; (with_reducible refine (vM.calls kj6 g B x y 1 J a2 L M w0 _ ?side1 ?side2 b0.out).mono ?_); (case side1 => repeat (first | (with_reducible first | exact j.out | apply vo.alloc | apply vo.drewN | apply vo.drew | apply vo.xD | apply vo.xC | refine vo.far ?_ r.out _) | exact j.out)); (case side2 => repeat (first | (with_reducible first | exact HB.out | apply vG | apply vz | apply vy | refine vW ?_ (vo.ge j.out) | refine vW ?_ u.out) | exact HB.out)); rintro e e2 ⟨rfl, hi, hb, hk⟩; refine ⟨_, rfl, ?_⟩; have n_ := aC (vr.blk hk (g' := t) (o := .cells #[.string d] 9 (0, 0)) (bU q.out) z.out (by simp)) (aC (vr.trans (by repeat (first | (with_reducible first | exact HK.out | apply vr.xQ | apply vI | apply vT | apply vH | refine yd ?_ s.out _) | exact HK.out)) hk (.inl rfl)) (aC hb (aE hi))); clear q HK HB j; obtain ⟨q, HK, HB, j⟩ := n_; have d4 := z.out; have d5 := r.out; obtain ⟨b1, b2⟩ := cz1f q.out; have hX_ := hXk _ HK.out))
         go_roundg kj6
         case measure => have := Y.out; have := a8.out; omega
         case rel => exact ⟨(L), (M), (d ++ (Utf8.encode (wrap32 (48 + (wrap32 (J)))))), H', ⟨by have := Y.out; have := a8.out; omega⟩, ⟨by (with_reducible repeat first | apply vm | apply vn | apply vl); refine vt (cs := #[.string d]) ?_ 0 _ rfl; (with_reducible repeat first | apply vm | apply vn | apply vl); exact q.out⟩, ⟨by repeat (first | (with_reducible first | exact j.out | apply vo.alloc | apply vo.drewN | apply vo.drew | apply vo.xD | apply vo.xC | refine vo.far ?_ r.out _) | exact j.out)⟩, ⟨by repeat (first | (with_reducible first | exact HK.out | apply vr.xQ | apply vI | apply vT | apply vH | refine yd ?_ s.out _) | exact HK.out)⟩, ⟨by repeat (first | (with_reducible first | exact HB.out | apply vG | apply vz | apply vy | refine vW ?_ (vo.ge j.out) | refine vW ?_ u.out) | exact HB.out)⟩⟩
        ·rw [if_neg O] at H
         exact nB H
       ·simp only [Option.some.injEq, Prod.mk.injEq] at H
        obtain ⟨rfl, rfl, rfl, rfl⟩ := H
        have hX_ := hXk _ HK.out
        go_wp2_with (first | ((with_reducible refine gf 88 rfl ?_); refine gL (some 22) rfl rfl Tryz.func88 rfl #[.slice A1 l1.length c1, .func (.func 89) #[] #[.pointer (some ⟨t, 0, none⟩)]] rfl ?_; (with_reducible refine (vX.calls kj6 _ _ l1 t d true _ ?side1 ?side2 ?side3 a4.out).mono ?_); (case side1 => exact Kd.ql (⟨#[]⟩ : ByteArray) T.out (by repeat (first | (with_reducible first | exact HK.out | apply vr.xQ | apply vI | apply vT | apply vH | refine yd ?_ s.out _) | exact HK.out)) hf1); (case side2 => exact X.out); (case side3 => exact bU q.out); rintro e e3 ⟨rfl, hb⟩; refine ⟨_, rfl, ?_⟩; have n_ := aC (vp (bU q.out) hb) (aC (vo.below (by repeat (first | (with_reducible first | exact j.out | apply vo.alloc | apply vo.drewN | apply vo.drew | apply vo.xD | apply vo.xC | refine vo.far ?_ r.out _) | exact j.out)) hb) (aC (vr.trans (by repeat (first | (with_reducible first | exact HK.out | apply vr.xQ | apply vI | apply vT | apply vH | refine yd ?_ s.out _) | exact HK.out)) (vr.of_below hb g none) (.inl rfl)) (aE (xu (by repeat (first | (with_reducible first | exact HB.out | apply vG | apply vz | apply vy | refine vW ?_ (vo.ge j.out) | refine vW ?_ u.out) | exact HB.out)) hb)))); clear q j HK HB; obtain ⟨q, j, HK, HB⟩ := n_; have hX_ := hXk _ HK.out) | ((with_reducible refine gf 84 rfl ?_); refine gL (some 29) rfl rfl Tryz.func84 rfl #[.pointer (some ⟨g, 0, none⟩), .int .i64 1] rfl ?_; (with_reducible refine (vM.calls kj6 g B x y 1 J a2 L M w0 _ ?side1 ?side2 b0.out).mono ?_); (case side1 => repeat (first | (with_reducible first | exact j.out | apply vo.alloc | apply vo.drewN | apply vo.drew | apply vo.xD | apply vo.xC | refine vo.far ?_ r.out _) | exact j.out)); (case side2 => repeat (first | (with_reducible first | exact HB.out | apply vG | apply vz | apply vy | refine vW ?_ (vo.ge j.out) | refine vW ?_ u.out) | exact HB.out)); rintro e e4 ⟨rfl, hi, hb, hk⟩; refine ⟨_, rfl, ?_⟩; have n_ := aC (vr.blk hk (g' := t) (o := .cells #[.string d] 9 (0, 0)) (bU q.out) z.out (by simp)) (aC (vr.trans (by repeat (first | (with_reducible first | exact HK.out | apply vr.xQ | apply vI | apply vT | apply vH | refine yd ?_ s.out _) | exact HK.out)) hk (.inl rfl)) (aC hb (aE hi))); clear q HK HB j; obtain ⟨q, HK, HB, j⟩ := n_; have hX_ := hXk _ HK.out))
        go_ret2
        exact ⟨re, by repeat (first | (with_reducible first | exact j.out | apply vo.alloc | apply vo.drewN | apply vo.drew | apply vo.xD | apply vo.xC | refine vo.far ?_ r.out _) | exact j.out), by repeat (first | (with_reducible first | exact HB.out | apply vG | apply vz | apply vy | refine vW ?_ (vo.ge j.out) | refine vW ?_ u.out) | exact HB.out), by repeat (first | (with_reducible first | exact HK.out | apply vr.xQ | apply vI | apply vT | apply vH | refine yd ?_ s.out _) | exact HK.out)⟩
      ·replace a0 := Bool.eq_false_iff.mpr a0
       subst a0
       rw [if_neg Bool.false_ne_true] at H
       simp only [Option.some.injEq, Prod.mk.injEq] at H
       obtain ⟨rfl, rfl, rfl, rfl⟩ := H
       have hX_ := hXk _ HK.out
       go_wp2_with (first | ((with_reducible refine gf 88 rfl ?_); refine gL (some 22) rfl rfl Tryz.func88 rfl #[.slice A1 l1.length c1, .func (.func 89) #[] #[.pointer (some ⟨t, 0, none⟩)]] rfl ?_; (with_reducible refine (vX.calls kj6 _ _ l1 t d false _ ?side1 ?side2 ?side3 a4.out).mono ?_); (case side1 => exact Kd.ql (⟨#[]⟩ : ByteArray) T.out (by repeat (first | (with_reducible first | exact HK.out | apply vr.xQ | apply vI | apply vT | apply vH | refine yd ?_ s.out _) | exact HK.out)) hf1); (case side2 => exact X.out); (case side3 => exact bU q.out); rintro e e5 ⟨rfl, hb⟩; refine ⟨_, rfl, ?_⟩; have n_ := aC (vp (bU q.out) hb) (aC (vo.below (by repeat (first | (with_reducible first | exact j.out | apply vo.alloc | apply vo.drewN | apply vo.drew | apply vo.xD | apply vo.xC | refine vo.far ?_ r.out _) | exact j.out)) hb) (aC (vr.trans (by repeat (first | (with_reducible first | exact HK.out | apply vr.xQ | apply vI | apply vT | apply vH | refine yd ?_ s.out _) | exact HK.out)) (vr.of_below hb g none) (.inl rfl)) (aE (xu (by repeat (first | (with_reducible first | exact HB.out | apply vG | apply vz | apply vy | refine vW ?_ (vo.ge j.out) | refine vW ?_ u.out) | exact HB.out)) hb)))); clear q j HK HB; obtain ⟨q, j, HK, HB⟩ := n_; have hX_ := hXk _ HK.out))
       go_ret2
       exact ⟨re, by repeat (first | (with_reducible first | exact j.out | apply vo.alloc | apply vo.drewN | apply vo.drew | apply vo.xD | apply vo.xC | refine vo.far ?_ r.out _) | exact j.out), by repeat (first | (with_reducible first | exact HB.out | apply vG | apply vz | apply vy | refine vW ?_ (vo.ge j.out) | refine vW ?_ u.out) | exact HB.out), by repeat (first | (with_reducible first | exact HK.out | apply vr.xQ | apply vI | apply vT | apply vH | refine yd ?_ s.out _) | exact HK.out)⟩
def wn.f (k : Nat) (q : List Int) (r : Int) (s : Bool) (j : List (wb)) (t : List ByteArray) : Option (Int × Int × Int × Bool) := (vR.f k q r s t).bind fun d => (if d.2.1 = 0 then (if 0 ≤ d.1 then (if d.1 < (j.length : Int) then ((vM.f k q d.2.2.1 d.2.2.2 ((vk j d.1).f1)).bind fun e => (some (wrap64 (e.1 + ((vk j d.1).f2)), e.2.1, e.2.2.1, e.2.2.2))) else (none)) else (none)) else (some (0, d.2.1, d.2.2.1, d.2.2.2)))
theorem wn.mono : ∀ a0 a1 a2 a3 a4 k, vK (wn.f k a0 a1 a2 a3 a4) (wn.f (k + 1) a0 a1 a2 a3 a4) := by
 intro a0 a1 a2 a3 a4 k
 unfold wn.f
 repeat' first
   | (with_reducible exact vM.mono _ _ _ _ _)
   | (with_reducible exact vR.mono _ _ _ _ _)
   | (with_reducible first | exact vK.refl _ | exact vK.none _ | apply vK.ite | apply vK.bind | intro)
def wn.T4 : Bool × List (List Nat × List Nat) := (true, [([], []), ([0], [0]), ([1], [1]), ([2], [2]), ([], []), ([4], [4]), ([], []), ([5, 6], [5, 6]), ([7], [7]), ([8], [8]), ([3, 9], [3, 9]), ([10], [10]), ([11], [11]), ([11], [11]), ([12, 10, 0, 1, 2, 3, 4, 5, 6, 7, 8, 9, 10, 11, 12], [12]), ([13, 14, 0, 1, 2, 3, 4, 5, 6, 7, 8, 9, 10, 11, 12, 13, 14], [13])])
def wn.B4 : List Nat := [0, 1, 3, 7, 0, 16, 0, 112, 240, 496, 1023, 2047, 4095, 4095, 8191, 32767]
theorem wn.tab4 : zi .any (opsOf Tryz.f63 4) = wn.T4 := by kernel_rfl
theorem wn.bits4 : yv wn.T4.2 wn.B4 = true := by kernel_rfl
theorem wn.calls (k : Nat) (g : Nat) (E : List Int) (J : Int) (L : Bool) (Z : Option Addr) (M : Nat) (u : List (wb)) (D : Option Addr) (G : Nat) (y : List ByteArray) (r1 : Int) (r2 : Int) (r3 : Int) (r4 : Bool) (w0 w : World) (hI : vo w0 w g E J L) (hB : Below w0.heap.size w0 w) (hr1_0 : ∀ W_, vr w W_ g none → Kd.C yj W_ Z u.length u) (a0 : u.length ≤ M) (hr1_1 : Kd.C Kd.string w D y.length y) (a1 : y.length ≤ G) (hf1_1 : ∀ ad, D = some ad → 0 < y.length → ad.block ≠ g) (gx : Nat) (hXk : ∀ W_ : World, vr w W_ g none → W_.cell? ⟨gx, 0, none⟩ = some (.pointer (some ⟨g, 0, none⟩))) (h : wn.f k E J L u y = some (r1, r2, r3, r4)) :
  Calls Tryz.prog 63 #[.pointer (some ⟨gx, 0, none⟩), .agg #[.slice Z u.length M, .slice D y.length G]] w fun e w' => e = .returned (.tuple #[.int .i64 r1, .int .i64 r2]) ∧ vo w0 w' g E r3 r4 ∧ Below w0.heap.size w0 w' ∧ vr w w' g none := by
 have hu84 := Tryz.underlying84
 have hu81 := Tryz.underlying81
 have j := aE hr1_0
 have f5 := aE a0
 clear hr1_0 a0
 have a2 := aE hr1_1
 have a3 := aE a1
 clear hr1_1 a1
 have q := aE hI
 have HK := aE (vr.refl w g none)
 have HL := aE hB.size
 clear hI
 have HW0 := aE hB.size
 have HB := aE hB
 clear hB
 have H := h
 unfold wn.f at H
 clear h
 obtain ⟨⟨d, b0, a4, a5⟩, A3, H⟩ := oB H
 try dsimp only at H
 rcases iE H with H1 | H1 <;> clear H <;> obtain ⟨H, f9, g0, c4⟩ := H1
 ·by_cases c5 : 0 ≤ d
  ·rw [if_pos c5] at H
   have g1 := decide_eq_true c5
   clear c5
   by_cases c6 : d < (u.length : Int)
   ·rw [if_pos c6] at H
    have g2 := decide_eq_true c6
    clear c6
    obtain ⟨⟨b2, b3, b4, b5⟩, A7, H⟩ := oB H
    try dsimp only at H
    simp only [Option.some.injEq, Prod.mk.injEq] at H
    obtain ⟨rfl, rfl, rfl, rfl⟩ := H
    go_enter Tryz.func63, Tryz.ntmps63
    have hX_ := hXk _ HK.out
    try go_wp2_with (first | ((with_reducible refine gd 3 rfl ?_); refine bx 3 #[.slice Z u.length M, .slice D y.length G] 81 rfl rfl ?_; intro t hg w8 hbox hb; have n_ := aC (vo.below (by repeat (first | (with_reducible first | exact q.out | apply vo.alloc | apply vo.drewN | apply vo.drew | apply vo.xD | apply vo.xC) | exact q.out)) hb) (aC (vr.trans (by repeat (first | (with_reducible first | exact HK.out | apply vr.xQ | apply vI | apply vT | apply vH) | exact HK.out)) (vr.of_below hb g none) (.inl rfl)) (aC (xu (by repeat (first | (with_reducible first | exact HB.out | apply vG | apply vz | apply vy | refine vW ?_ (vo.ge q.out)) | exact HB.out)) hb) (aC hbox (aC ((by rw [hg]; exact (zl (w := w) (g := g) (row := none) (by repeat (first | (with_reducible first | exact HK.out | apply vr.xQ | apply vI | apply vT | apply vH) | exact HK.out))) : w.heap.size ≤ t)) (aC ((Nat.le_trans HW0.out (by rw [hg]; exact (zl (w := w) (g := g) (row := none) (by repeat (first | (with_reducible first | exact HK.out | apply vr.xQ | apply vI | apply vT | apply vH) | exact HK.out))) : w.heap.size ≤ t) : w0.heap.size ≤ t)) (aC ((by rw [hg]; exact Nat.ne_of_lt (vo.lt (show vo w0 _ g E J L from by repeat (first | (with_reducible first | exact q.out | apply vo.alloc | apply vo.drewN | apply vo.drew | apply vo.xD | apply vo.xC) | exact q.out))) : g ≠ t)) (aE ((by rw [hg]; exact Nat.ne_of_gt (vo.lt (show vo w0 _ g E J L from by repeat (first | (with_reducible first | exact q.out | apply vo.alloc | apply vo.drewN | apply vo.drew | apply vo.xD | apply vo.xC) | exact q.out))) : t ≠ g))))))))); clear q HK HB; obtain ⟨q, HK, HB, r, z, I, x, B⟩ := n_; clear hb hbox hg; have g3 := B.out; have g4 := x.out; obtain ⟨b6, b7, b8, b9⟩ := yM r.out; have hX_ := hXk _ HK.out) | ((with_reducible refine gf 65 rfl ?_); refine gL (some 13) rfl rfl Tryz.func65 rfl #[.pointer (some ⟨gx, 0, none⟩), .slice D y.length G] rfl ?_; (with_reducible refine (vR.calls k g E J L _ _ y d b0 a4 a5 w0 _ ?side1 ?side2 ?side3 ?side4 ?side5 gx (fun W_ h_ => hXk W_ (vr.trans (by repeat (first | (with_reducible first | exact HK.out | apply vr.xQ | apply vI | apply vT | apply vH | refine yd ?_ z.out _) | exact HK.out)) h_ (.inl rfl))) A3.out).mono ?_); (case side1 => repeat (first | (with_reducible first | exact q.out | apply vo.alloc | apply vo.drewN | apply vo.drew | apply vo.xD | apply vo.xC | refine vo.far ?_ x.out _) | exact q.out)); (case side2 => repeat (first | (with_reducible first | exact HB.out | apply vG | apply vz | apply vy | refine vW ?_ (vo.ge q.out) | refine vW ?_ I.out) | exact HB.out)); (case side3 => exact Kd.ql (⟨#[]⟩ : ByteArray) a2.out (by repeat (first | (with_reducible first | exact HK.out | apply vr.xQ | apply vI | apply vT | apply vH | refine yd ?_ z.out _) | exact HK.out)) hf1_1); (case side4 => exact a3.out); (case side5 => exact hf1_1); rintro e f6 ⟨rfl, hi, hb, hk⟩; refine ⟨_, rfl, ?_⟩; have n_ := aC (vr.blk hk (g' := t) (o := .cells #[.slice Z u.length M, .slice D y.length G] 81 (0, 0)) (bU r.out) B.out (by simp)) (aC (vr.trans (by repeat (first | (with_reducible first | exact HK.out | apply vr.xQ | apply vI | apply vT | apply vH | refine yd ?_ z.out _) | exact HK.out)) hk (.inl rfl)) (aC hb (aE hi))); clear r HK HB q; obtain ⟨r, HK, HB, q⟩ := n_; have hX_ := hXk _ HK.out))
    have n_ := aC (vn r.out) (aC (vo.drew q.out) (aC (vT HK.out) (aE (vy HB.out))))
    clear r q HK HB
    obtain ⟨r, q, HK, HB⟩ := n_
    have a6 : 0 ≤ (d : Int) := dt
    have a7 : d < (u.length : Int) := dt
    obtain ⟨s, c0, O, T, X, Y⟩ := xr (Kd.qN j.out HK.out) d a6 a7
    have c1 := Y
    have d0 := X
    have d1 := T
    have d2 := O
    cases c0
    have hne459_3 := (show (⟨(s.add ((d).toNat * 4)).block, (s.add ((d).toNat * 4)).off + 3, none⟩ : Addr).block ≠ g from by first | (rw [add_block]; exact Kd.zr j.out (by omega) (by decide)) | (show (Addr.add _ _).block ≠ _; rw [add_block]; exact Kd.zr j.out (by omega) (by decide)) | exact Kd.zr j.out (by omega) (by decide) | (dsimp only; exact Kd.zr j.out (by omega) (by decide)))
    have hlt459_3 := (Kd.qK j.out (by omega) (by decide))
    have hne459_2 := (show (⟨(s.add ((d).toNat * 4)).block, (s.add ((d).toNat * 4)).off + 2, none⟩ : Addr).block ≠ g from by first | (rw [add_block]; exact Kd.zr j.out (by omega) (by decide)) | (show (Addr.add _ _).block ≠ _; rw [add_block]; exact Kd.zr j.out (by omega) (by decide)) | exact Kd.zr j.out (by omega) (by decide) | (dsimp only; exact Kd.zr j.out (by omega) (by decide)))
    have hlt459_2 := (Kd.qK j.out (by omega) (by decide))
    have hne459_1 := (show (⟨(s.add ((d).toNat * 4)).block, (s.add ((d).toNat * 4)).off + 1, none⟩ : Addr).block ≠ g from by first | (rw [add_block]; exact Kd.zr j.out (by omega) (by decide)) | (show (Addr.add _ _).block ≠ _; rw [add_block]; exact Kd.zr j.out (by omega) (by decide)) | exact Kd.zr j.out (by omega) (by decide) | (dsimp only; exact Kd.zr j.out (by omega) (by decide)))
    have hlt459_1 := (Kd.qK j.out (by omega) (by decide))
    have hne459_0 := (show ((s.add ((d).toNat * 4)) : Addr).block ≠ g from by first | (rw [add_block]; exact Kd.zr j.out (by omega) (by decide)) | (show (Addr.add _ _).block ≠ _; rw [add_block]; exact Kd.zr j.out (by omega) (by decide)) | exact Kd.zr j.out (by omega) (by decide) | (dsimp only; exact Kd.zr j.out (by omega) (by decide)))
    have hlt459_0 := (Kd.qK j.out (by omega) (by decide))
    replace a6 := eq_true a6
    replace a7 := eq_true a7
    refine st 16 (fun w' => w'.cell? ⟨t, 0, none⟩ = some (.slice (some s) u.length M) ∧ w'.cell? ⟨t, 1, none⟩ = some (.slice D y.length G) ∧ w'.cell? (s.add ((d).toNat * 4)) = some (.int .i64 ((vk u d).f0)) ∧ w'.cell? ⟨(s.add ((d).toNat * 4)).block, (s.add ((d).toNat * 4)).off + 1, none⟩ = some (.int .i64 ((vk u d).f1)) ∧ w'.cell? ⟨(s.add ((d).toNat * 4)).block, (s.add ((d).toNat * 4)).off + 2, none⟩ = some (.int .i64 ((vk u d).f2)) ∧ w'.cell? ⟨(s.add ((d).toNat * 4)).block, (s.add ((d).toNat * 4)).off + 3, none⟩ = some (.int .i64 ((vk u d).f3)) ∧ w'.cell? ⟨gx, 0, none⟩ = some (.pointer (some ⟨g, 0, none⟩))) [] (bv 16 0) wn.tab4 wn.bits4 ⟨jB r.out, jz r.out, O, T, X, Y, (hXk _ HK.out)⟩ (fun hHeld HT_ HW_ => ?_)
    generalize f6.drew = g5 at r q HK HB O T X Y hHeld ⊢
    refine pu 0 20 (bv 16 1) HT_ rfl rfl ?_
    refine pu 1 21 (bv 16 3) HT_ rfl rfl ?_
    refine pu 2 22 (bv 16 7) HT_ rfl rfl ?_
    refine pu 4 24 (bv 16 23) HT_ rfl rfl ?_
    refine pu 6 26 (bv 16 87) HT_ rfl rfl ?_
    refine tk 3 23 (bv 16 95) HT_ HW_ hHeld rfl rfl (by rintro w' ⟨s0, s1, s2, s3, s4, s5, d3⟩; exact yl) ?_
    refine tk 5 25 (bv 16 127) HT_ HW_ hHeld rfl rfl (by rintro w' ⟨s0, s1, s2, s3, s4, s5, d3⟩; exact yl) ?_
    refine pu 7 27 (bv 16 255) HT_ rfl rfl ?_
    refine pu 8 28 (bv 16 511) HT_ rfl rfl ?_
    refine tk 9 29 (bv 16 1023) HT_ HW_ hHeld rfl rfl (by rintro w' ⟨s0, s1, s2, s3, s4, s5, d3⟩; exact yl) ?_
    refine yA (i := 10) (N := some 30) (bv 16 2047) rfl rfl (xl HT_.out (by kernel_rfl)) (by decide) (fun K hK => ?_)
    refine gK Tryz.func84 rfl #[.pointer (some ⟨g, 0, none⟩), .int .i64 ((vk u d).f1)] rfl rfl ?_
    with_reducible refine (vM.calls k g E a4 a5 ((vk u d).f1) b2 b3 b4 b5 w0 _ ?side1 ?side2 A7.out).mono ?_
    (case side1 => repeat (first | (with_reducible first | exact q.out | apply vo.alloc | apply vo.drewN | apply vo.drew | apply vo.xD | apply vo.xC | refine vo.far ?_ x.out _) | exact q.out))
    (case side2 => repeat (first | (with_reducible first | exact HB.out | apply vG | apply vz | apply vy | refine vW ?_ (vo.ge q.out) | refine vW ?_ I.out) | exact HB.out))
    rintro e g6 ⟨rfl, hi, hb, hk⟩
    have d4 := jh hk (hHeld.2.2.1) (by first | (rw [add_block]; exact hne459_0) | (show (Addr.add _ _).block ≠ _; rw [add_block]; exact hne459_0) | exact hne459_0)
    have d5 := jh hk (hHeld.2.2.2.1) (by first | (rw [add_block]; exact hne459_1) | (show (Addr.add _ _).block ≠ _; rw [add_block]; exact hne459_1) | exact hne459_1)
    have d6 := jh hk (hHeld.2.2.2.2.1) (by first | (rw [add_block]; exact hne459_2) | (show (Addr.add _ _).block ≠ _; rw [add_block]; exact hne459_2) | exact hne459_2)
    have d7 := jh hk (hHeld.2.2.2.2.2.1) (by first | (rw [add_block]; exact hne459_3) | (show (Addr.add _ _).block ≠ _; rw [add_block]; exact hne459_3) | exact hne459_3)
    refine ⟨_, rfl, ?_⟩
    have n_ := aC (vr.blk hk (g' := t) (o := .cells #[.slice (some s) u.length M, .slice D y.length G] 81 (0, 0)) (bU r.out) B.out (by simp)) (aC (vr.trans (by repeat (first | (with_reducible first | exact HK.out | apply vr.xQ | apply vI | apply vT | apply vH | refine yd ?_ z.out _) | exact HK.out)) hk (.inl rfl)) (aC hb (aE hi)))
    clear r HK HB q
    obtain ⟨r, HK, HB, q⟩ := n_
    (try clear hb)
    (try clear g7)
    (try clear hk)
    (try clear hi)
    refine hK.out _ _ ⟨jB r.out, jz r.out, d4, d5, d6, d7, (hXk _ HK.out)⟩ (fun hHeld => ?_)
    clear hK K
    refine nm (some 30) ?_
    refine pu 11 19 (bv 16 4095) HT_ rfl rfl ?_
    refine pu 12 31 (bv 16 8191) HT_ rfl rfl ?_
    refine pu 13 32 (bv 16 16383) HT_ rfl rfl ?_
    refine pu 14 8 (bv 16 32767) HT_ rfl rfl ?_
    refine pu 15 7 (bv 16 65535) HT_ rfl rfl ?_
    refine zd (xZ HT_.out (by kernel_rfl)) ?_
    obtain ⟨d8, d9, e0, e1⟩ := yM r.out
    have a8 : 0 ≤ (d : Int) := dt
    have a9 : d < (u.length : Int) := dt
    obtain ⟨b1, e2, e3, e4, e5, e6⟩ := xr (Kd.qN j.out HK.out) d a8 a9
    obtain rfl : s = b1 := (by injection e2)
    replace a8 := eq_true a8
    replace a9 := eq_true a9
    have hX_ := hXk _ HK.out
    try go_wp2
    go_ret2
    exact ⟨re, by repeat (first | (with_reducible first | exact q.out | apply vo.alloc | apply vo.drewN | apply vo.drew | apply vo.xD | apply vo.xC | refine vo.far ?_ x.out _) | exact q.out), by repeat (first | (with_reducible first | exact HB.out | apply vG | apply vz | apply vy | refine vW ?_ (vo.ge q.out) | refine vW ?_ I.out) | exact HB.out), by repeat (first | (with_reducible first | exact HK.out | apply vr.xQ | apply vI | apply vT | apply vH | refine yd ?_ z.out _) | exact HK.out)⟩
   ·rw [if_neg c6] at H
    exact nB H
  ·rw [if_neg c5] at H
   exact nB H
 ·simp only [Option.some.injEq, Prod.mk.injEq] at H
  obtain ⟨rfl, rfl, rfl, rfl⟩ := H
  go_enter Tryz.func63, Tryz.ntmps63
  have hX_ := hXk _ HK.out
  go_wp2_with (first | ((with_reducible refine gd 3 rfl ?_); refine bx 3 #[.slice Z u.length M, .slice D y.length G] 81 rfl rfl ?_; intro t hg g8 hbox hb; have n_ := aC (vo.below (by repeat (first | (with_reducible first | exact q.out | apply vo.alloc | apply vo.drewN | apply vo.drew | apply vo.xD | apply vo.xC) | exact q.out)) hb) (aC (vr.trans (by repeat (first | (with_reducible first | exact HK.out | apply vr.xQ | apply vI | apply vT | apply vH) | exact HK.out)) (vr.of_below hb g none) (.inl rfl)) (aC (xu (by repeat (first | (with_reducible first | exact HB.out | apply vG | apply vz | apply vy | refine vW ?_ (vo.ge q.out)) | exact HB.out)) hb) (aC hbox (aC ((by rw [hg]; exact (zl (w := w) (g := g) (row := none) (by repeat (first | (with_reducible first | exact HK.out | apply vr.xQ | apply vI | apply vT | apply vH) | exact HK.out))) : w.heap.size ≤ t)) (aC ((Nat.le_trans HW0.out (by rw [hg]; exact (zl (w := w) (g := g) (row := none) (by repeat (first | (with_reducible first | exact HK.out | apply vr.xQ | apply vI | apply vT | apply vH) | exact HK.out))) : w.heap.size ≤ t) : w0.heap.size ≤ t)) (aC ((by rw [hg]; exact Nat.ne_of_lt (vo.lt (show vo w0 _ g E J L from by repeat (first | (with_reducible first | exact q.out | apply vo.alloc | apply vo.drewN | apply vo.drew | apply vo.xD | apply vo.xC) | exact q.out))) : g ≠ t)) (aE ((by rw [hg]; exact Nat.ne_of_gt (vo.lt (show vo w0 _ g E J L from by repeat (first | (with_reducible first | exact q.out | apply vo.alloc | apply vo.drewN | apply vo.drew | apply vo.xD | apply vo.xC) | exact q.out))) : t ≠ g))))))))); clear q HK HB; obtain ⟨q, HK, HB, r, z, I, x, B⟩ := n_; clear hb hbox hg; have f7 := B.out; have f8 := x.out; obtain ⟨e7, e8, e9, f4⟩ := yM r.out; have hX_ := hXk _ HK.out) | ((with_reducible refine gf 65 rfl ?_); refine gL (some 13) rfl rfl Tryz.func65 rfl #[.pointer (some ⟨gx, 0, none⟩), .slice D y.length G] rfl ?_; (with_reducible refine (vR.calls k g E J L _ _ y d b0 a4 a5 w0 _ ?side1 ?side2 ?side3 ?side4 ?side5 gx (fun W_ h_ => hXk W_ (vr.trans (by repeat (first | (with_reducible first | exact HK.out | apply vr.xQ | apply vI | apply vT | apply vH | refine yd ?_ z.out _) | exact HK.out)) h_ (.inl rfl))) A3.out).mono ?_); (case side1 => repeat (first | (with_reducible first | exact q.out | apply vo.alloc | apply vo.drewN | apply vo.drew | apply vo.xD | apply vo.xC | refine vo.far ?_ x.out _) | exact q.out)); (case side2 => repeat (first | (with_reducible first | exact HB.out | apply vG | apply vz | apply vy | refine vW ?_ (vo.ge q.out) | refine vW ?_ I.out) | exact HB.out)); (case side3 => exact Kd.ql (⟨#[]⟩ : ByteArray) a2.out (by repeat (first | (with_reducible first | exact HK.out | apply vr.xQ | apply vI | apply vT | apply vH | refine yd ?_ z.out _) | exact HK.out)) hf1_1); (case side4 => exact a3.out); (case side5 => exact hf1_1); rintro e g9 ⟨rfl, hi, hb, hk⟩; refine ⟨_, rfl, ?_⟩; have n_ := aC (vr.blk hk (g' := t) (o := .cells #[.slice Z u.length M, .slice D y.length G] 81 (0, 0)) (bU r.out) B.out (by simp)) (aC (vr.trans (by repeat (first | (with_reducible first | exact HK.out | apply vr.xQ | apply vI | apply vT | apply vH | refine yd ?_ z.out _) | exact HK.out)) hk (.inl rfl)) (aC hb (aE hi))); clear r HK HB q; obtain ⟨r, HK, HB, q⟩ := n_; have hX_ := hXk _ HK.out))
  go_ret2
  exact ⟨re, by repeat (first | (with_reducible first | exact q.out | apply vo.alloc | apply vo.drewN | apply vo.drew | apply vo.xD | apply vo.xC | refine vo.far ?_ x.out _) | exact q.out), by repeat (first | (with_reducible first | exact HB.out | apply vG | apply vz | apply vy | refine vW ?_ (vo.ge q.out) | refine vW ?_ I.out) | exact HB.out), by repeat (first | (with_reducible first | exact HK.out | apply vr.xQ | apply vI | apply vT | apply vH | refine yd ?_ z.out _) | exact HK.out)⟩
def Xok (g gx : Nat) (U C0 C1 : List wb × List ByteArray) (ws : List ByteArray) (w : World) : Prop :=
 ∃ (a1 a2 a3 a4 a5 a6 a7 : Option Addr) (c1 c2 c3 c4 c5 c6 c7 : Nat),
  (U.1.length ≤ c1 ∧ U.2.length ≤ c2 ∧ C0.1.length ≤ c3 ∧ C0.2.length ≤ c4 ∧ C1.1.length ≤ c5 ∧ C1.2.length ≤ c6 ∧ ws.length ≤ c7) ∧
  ((∀ ad, a2 = some ad → 0 < U.2.length → ad.block ≠ g) ∧ (∀ ad, a4 = some ad → 0 < C0.2.length → ad.block ≠ g) ∧ (∀ ad, a6 = some ad → 0 < C1.2.length → ad.block ≠ g) ∧ (∀ ad, a7 = some ad → 0 < ws.length → ad.block ≠ g)) ∧
  ∀ W_ : World, vr w W_ g none →
   W_.heap[gx]? = some (.cells #[.pointer (some ⟨g, 0, none⟩), .slice a1 U.1.length c1, .slice a2 U.2.length c2, .slice a3 C0.1.length c3, .slice a4 C0.2.length c4, .slice a5 C1.1.length c5, .slice a6 C1.2.length c6, .slice a7 ws.length c7] 84 (0, 0)) ∧
   Kd.C yj W_ a1 U.1.length U.1 ∧ Kd.C Kd.string W_ a2 U.2.length U.2 ∧ Kd.C yj W_ a3 C0.1.length C0.1 ∧ Kd.C Kd.string W_ a4 C0.2.length C0.2 ∧ Kd.C yj W_ a5 C1.1.length C1.1 ∧ Kd.C Kd.string W_ a6 C1.2.length C1.2 ∧ Kd.C Kd.string W_ a7 ws.length ws
theorem Xok.keep {g gx : Nat} {U C0 C1 : List wb × List ByteArray} {ws : List ByteArray} {w w' : World} (h : Xok g gx U C0 C1 ws w) (k : vr w w' g none) : Xok g gx U C0 C1 ws w' := by
 obtain ⟨a1, a2, a3, a4, a5, a6, a7, c1, c2, c3, c4, c5, c6, c7, hl, hf, hW⟩ := h
 exact ⟨a1, a2, a3, a4, a5, a6, a7, c1, c2, c3, c4, c5, c6, c7, hl, hf, fun W_ q => hW W_ (k.trans q (.inl rfl))⟩
def yO.f (k : Nat) (U C0 C1 : List wb × List ByteArray) (d : List Int) (e : Int) (j : Bool) (c : Int) : Option (Int × Int × Int × Bool) :=
 (wn.f k d e j U.1 U.2).bind fun n => (if n.2.1 = 0 then
  ((wn.f k d n.2.2.1 n.2.2.2 (if c = 0 then C0.1 else C1.1) (if c = 0 then C0.2 else C1.2)).bind fun m => (if m.2.1 = 0 then
   (if m.1 ≥ 64 then some (0, 3, m.2.2.1, m.2.2.2) else some (wrap64 (wrap64 (n.1 * 64) + m.1), 0, m.2.2.1, m.2.2.2)) else some (0, m.2.1, m.2.2.1, m.2.2.2)))
  else some (0, n.2.1, n.2.2.1, n.2.2.2))
theorem yO.calls (k : Nat) (g gx : Nat) (U C0 C1 : List wb × List ByteArray) (ws : List ByteArray) (d : List Int) (j : Int) (r : Bool) (c : Int) (hc : c = 0 ∨ c = 1) (r1 r2 r3 : Int) (r4 : Bool) (w0 w : World) (hI : vo w0 w g d j r) (hB : Below w0.heap.size w0 w) (hX : Xok g gx U C0 C1 ws w)
  (h : yO.f k U C0 C1 d j r c = some (r1, r2, r3, r4)) :
  Calls Tryz.prog 45 #[.pointer (some ⟨gx, 0, none⟩), .int .i64 c] w fun e w' => e = .returned (.tuple #[.int .i64 r1, .int .i64 r2]) ∧ vo w0 w' g d r3 r4 ∧ Below w0.heap.size w0 w' ∧ vr w w' g none := by
 have hu84 := Tryz.underlying84
 have hu81 := Tryz.underlying81
 have hu82 := Tryz.underlying82
 unfold yO.f at h
 obtain ⟨⟨n1, n2, n3, n4⟩, A1, h⟩ := Option.bind_eq_some_iff.mp h
 replace h : (if n2 = 0 then _ else _) = some (r1, r2, r3, r4) := h
 obtain ⟨a1, a2, a3, a4, a5, a6, a7, c1, c2, c3, c4, c5, c6, c7, ⟨l1, l2, l3, l4, l5, l6, l7⟩, ⟨f2, f4, f6, f7⟩, hW⟩ := hX
 have HW := aE hW
 clear hW
 have cells : ∀ W_ : World, vr w W_ g none → _ := fun W_ q => cz8f (HW.out W_ q).1
 have CL := aE cells
 clear cells
 have u := aE A1
 clear A1
 have HH := aE h
 clear h
 obtain ⟨I, J, L, M, O, T, X, Y, _⟩ := CL.out w (vr.refl w g none)
 have E : n2 = 0 ∨ n2 ≠ 0 := by omega
 rcases E with z | z
 ·subst z
  have hh := HH.out
  rw [if_pos rfl] at hh
  clear HH
  obtain ⟨⟨m1, m2, m3, m4⟩, A2, hh⟩ := Option.bind_eq_some_iff.mp hh
  replace hh : (if m2 = 0 then (if m1 ≥ 64 then some (0, 3, m3, m4) else some (wrap64 (wrap64 (n1 * 64) + m1), 0, m3, m4)) else some (0, m2, m3, m4)) = some (r1, r2, r3, r4) := hh
  have HH := aE hh
  clear hh
  have B := aE A2
  clear A2
  have step1 : ∀ w1 : World, vr w w1 g none → vo w0 w1 g d n3 n4 → Below w0.heap.size w0 w1 → ∀ (a : Option Addr) (cc : Nat) (b : Option Addr) (cb : Nat) (x : List wb) (y : List ByteArray), x.length ≤ cc → y.length ≤ cb → (∀ ad, b = some ad → 0 < y.length → ad.block ≠ g) → (∀ W_ : World, vr w W_ g none → Kd.C yj W_ a x.length x ∧ Kd.C Kd.string W_ b y.length y) →
    wn.f k d n3 n4 x y = some (m1, m2, m3, m4) →
    Calls Tryz.prog 63 #[.pointer (some ⟨gx, 0, none⟩), .agg #[.slice a x.length cc, .slice b y.length cb]] w1 fun e w' => e = .returned (.tuple #[.int .i64 m1, .int .i64 m2]) ∧ vo w0 w' g d m3 m4 ∧ Below w0.heap.size w0 w' ∧ vr w w' g none := by
   intro w1 hk hi hb a cc b cb x y hx hy hbf hR hA
   refine (wn.calls k g d n3 n4 _ _ x _ _ y m1 m2 m3 m4 w0 _ hi hb (fun W_ q => (hR W_ (hk.trans q (.inl rfl))).1) hx (hR w1 hk).2 hy hbf gx (fun W_ q => (CL.out W_ (hk.trans q (.inl rfl))).1) hA).mono ?_
   rintro e w2 ⟨h1, h2, h3, h4⟩
   exact ⟨h1, h2, h3, hk.trans h4 (.inl rfl)⟩
  have S1 := aE step1
  clear step1
  rcases hc with z | z
  ·subst z
   have A3 := aE (show wn.f k d n3 n4 C0.1 C0.2 = some (m1, m2, m3, m4) from B.out)
   clear B
   by_cases q2 : m2 = 0
   ·subst q2
    have hh := HH.out
    rw [if_pos rfl] at hh
    clear HH
    by_cases q3 : m1 ≥ 64
    ·rw [if_pos q3] at hh
     have D : decide (64 ≤ m1) = true := decide_eq_true q3
     simp only [Option.some.injEq, Prod.mk.injEq] at hh
     obtain ⟨rfl, rfl, rfl, rfl⟩ := hh
     go_enter Tryz.func45, Tryz.ntmps45
     go_wp2_with (first | ((with_reducible refine gf 63 rfl ?_); refine gL (some 15) rfl rfl Tryz.func63 rfl #[.pointer (some ⟨gx, 0, none⟩), .agg #[.slice a1 U.1.length c1, .slice a2 U.2.length c2]] rfl ?_; (with_reducible refine (wn.calls k g d j r _ _ U.1 _ _ U.2 n1 0 n3 n4 w0 _ hI hB (fun W_ q => (HW.out W_ q).2.1) l1 (HW.out _ (vr.refl _ g none)).2.2.1 l2 f2 gx (fun W_ q => (CL.out W_ q).1) u.out).mono ?_); rintro e w1 ⟨rfl, hi, hb, hk⟩; refine ⟨_, rfl, ?_⟩; obtain ⟨hy0, hy1, hy2, hy3, hy4, hy5, hy6, hy7, _⟩ := CL.out w1 hk) | ((with_reducible refine gf 63 rfl ?_); refine gL (some 29) rfl rfl Tryz.func63 rfl #[.pointer (some ⟨gx, 0, none⟩), .agg #[.slice a3 C0.1.length c3, .slice a4 C0.2.length c4]] rfl ?_; (with_reducible refine (S1.out _ hk hi hb a3 c3 a4 c4 C0.1 C0.2 l3 l4 f4 (fun W_ q => ⟨(HW.out W_ q).2.2.2.1, (HW.out W_ q).2.2.2.2.1⟩) A3.out).mono ?_); rintro e w2 ⟨rfl, s, t, hk2⟩; refine ⟨_, rfl, ?_⟩))
     go_ret2
     exact ⟨re, s, t, hk2⟩
    ·rw [if_neg q3] at hh
     have D : decide (64 ≤ m1) = false := decide_eq_false q3
     simp only [Option.some.injEq, Prod.mk.injEq] at hh
     obtain ⟨rfl, rfl, rfl, rfl⟩ := hh
     go_enter Tryz.func45, Tryz.ntmps45
     go_wp2_with (first | ((with_reducible refine gf 63 rfl ?_); refine gL (some 15) rfl rfl Tryz.func63 rfl #[.pointer (some ⟨gx, 0, none⟩), .agg #[.slice a1 U.1.length c1, .slice a2 U.2.length c2]] rfl ?_; (with_reducible refine (wn.calls k g d j r _ _ U.1 _ _ U.2 n1 0 n3 n4 w0 _ hI hB (fun W_ q => (HW.out W_ q).2.1) l1 (HW.out _ (vr.refl _ g none)).2.2.1 l2 f2 gx (fun W_ q => (CL.out W_ q).1) u.out).mono ?_); rintro e w1 ⟨rfl, hi, hb, hk⟩; refine ⟨_, rfl, ?_⟩; obtain ⟨hy0, hy1, hy2, hy3, hy4, hy5, hy6, hy7, _⟩ := CL.out w1 hk) | ((with_reducible refine gf 63 rfl ?_); refine gL (some 29) rfl rfl Tryz.func63 rfl #[.pointer (some ⟨gx, 0, none⟩), .agg #[.slice a3 C0.1.length c3, .slice a4 C0.2.length c4]] rfl ?_; (with_reducible refine (S1.out _ hk hi hb a3 c3 a4 c4 C0.1 C0.2 l3 l4 f4 (fun W_ q => ⟨(HW.out W_ q).2.2.2.1, (HW.out W_ q).2.2.2.2.1⟩) A3.out).mono ?_); rintro e w2 ⟨rfl, s, t, hk2⟩; refine ⟨_, rfl, ?_⟩))
     go_ret2
     exact ⟨re, s, t, hk2⟩
   ·have hh := HH.out
    rw [if_neg q2] at hh
    have G : (m2 != 0) = true := by simpa using q2
    clear HH
    simp only [Option.some.injEq, Prod.mk.injEq] at hh
    obtain ⟨rfl, rfl, rfl, rfl⟩ := hh
    go_enter Tryz.func45, Tryz.ntmps45
    go_wp2_with (first | ((with_reducible refine gf 63 rfl ?_); refine gL (some 15) rfl rfl Tryz.func63 rfl #[.pointer (some ⟨gx, 0, none⟩), .agg #[.slice a1 U.1.length c1, .slice a2 U.2.length c2]] rfl ?_; (with_reducible refine (wn.calls k g d j r _ _ U.1 _ _ U.2 n1 0 n3 n4 w0 _ hI hB (fun W_ q => (HW.out W_ q).2.1) l1 (HW.out _ (vr.refl _ g none)).2.2.1 l2 f2 gx (fun W_ q => (CL.out W_ q).1) u.out).mono ?_); rintro e w1 ⟨rfl, hi, hb, hk⟩; refine ⟨_, rfl, ?_⟩; obtain ⟨hy0, hy1, hy2, hy3, hy4, hy5, hy6, hy7, _⟩ := CL.out w1 hk) | ((with_reducible refine gf 63 rfl ?_); refine gL (some 29) rfl rfl Tryz.func63 rfl #[.pointer (some ⟨gx, 0, none⟩), .agg #[.slice a3 C0.1.length c3, .slice a4 C0.2.length c4]] rfl ?_; (with_reducible refine (S1.out _ hk hi hb a3 c3 a4 c4 C0.1 C0.2 l3 l4 f4 (fun W_ q => ⟨(HW.out W_ q).2.2.2.1, (HW.out W_ q).2.2.2.2.1⟩) A3.out).mono ?_); rintro e w2 ⟨rfl, s, t, hk2⟩; refine ⟨_, rfl, ?_⟩))
    go_ret2
    exact ⟨re, s, t, hk2⟩
  ·subst z
   have A3 := aE (show wn.f k d n3 n4 C1.1 C1.2 = some (m1, m2, m3, m4) from B.out)
   clear B
   by_cases q2 : m2 = 0
   ·subst q2
    have hh := HH.out
    rw [if_pos rfl] at hh
    clear HH
    by_cases q3 : m1 ≥ 64
    ·rw [if_pos q3] at hh
     have D : decide (64 ≤ m1) = true := decide_eq_true q3
     simp only [Option.some.injEq, Prod.mk.injEq] at hh
     obtain ⟨rfl, rfl, rfl, rfl⟩ := hh
     go_enter Tryz.func45, Tryz.ntmps45
     go_wp2_with (first | ((with_reducible refine gf 63 rfl ?_); refine gL (some 15) rfl rfl Tryz.func63 rfl #[.pointer (some ⟨gx, 0, none⟩), .agg #[.slice a1 U.1.length c1, .slice a2 U.2.length c2]] rfl ?_; (with_reducible refine (wn.calls k g d j r _ _ U.1 _ _ U.2 n1 0 n3 n4 w0 _ hI hB (fun W_ q => (HW.out W_ q).2.1) l1 (HW.out _ (vr.refl _ g none)).2.2.1 l2 f2 gx (fun W_ q => (CL.out W_ q).1) u.out).mono ?_); rintro e w1 ⟨rfl, hi, hb, hk⟩; refine ⟨_, rfl, ?_⟩; obtain ⟨hy0, hy1, hy2, hy3, hy4, hy5, hy6, hy7, _⟩ := CL.out w1 hk) | ((with_reducible refine gf 63 rfl ?_); refine gL (some 29) rfl rfl Tryz.func63 rfl #[.pointer (some ⟨gx, 0, none⟩), .agg #[.slice a5 C1.1.length c5, .slice a6 C1.2.length c6]] rfl ?_; (with_reducible refine (S1.out _ hk hi hb a5 c5 a6 c6 C1.1 C1.2 l5 l6 f6 (fun W_ q => ⟨(HW.out W_ q).2.2.2.2.2.1, (HW.out W_ q).2.2.2.2.2.2.1⟩) A3.out).mono ?_); rintro e w2 ⟨rfl, s, t, hk2⟩; refine ⟨_, rfl, ?_⟩))
     go_ret2
     exact ⟨re, s, t, hk2⟩
    ·rw [if_neg q3] at hh
     have D : decide (64 ≤ m1) = false := decide_eq_false q3
     simp only [Option.some.injEq, Prod.mk.injEq] at hh
     obtain ⟨rfl, rfl, rfl, rfl⟩ := hh
     go_enter Tryz.func45, Tryz.ntmps45
     go_wp2_with (first | ((with_reducible refine gf 63 rfl ?_); refine gL (some 15) rfl rfl Tryz.func63 rfl #[.pointer (some ⟨gx, 0, none⟩), .agg #[.slice a1 U.1.length c1, .slice a2 U.2.length c2]] rfl ?_; (with_reducible refine (wn.calls k g d j r _ _ U.1 _ _ U.2 n1 0 n3 n4 w0 _ hI hB (fun W_ q => (HW.out W_ q).2.1) l1 (HW.out _ (vr.refl _ g none)).2.2.1 l2 f2 gx (fun W_ q => (CL.out W_ q).1) u.out).mono ?_); rintro e w1 ⟨rfl, hi, hb, hk⟩; refine ⟨_, rfl, ?_⟩; obtain ⟨hy0, hy1, hy2, hy3, hy4, hy5, hy6, hy7, _⟩ := CL.out w1 hk) | ((with_reducible refine gf 63 rfl ?_); refine gL (some 29) rfl rfl Tryz.func63 rfl #[.pointer (some ⟨gx, 0, none⟩), .agg #[.slice a5 C1.1.length c5, .slice a6 C1.2.length c6]] rfl ?_; (with_reducible refine (S1.out _ hk hi hb a5 c5 a6 c6 C1.1 C1.2 l5 l6 f6 (fun W_ q => ⟨(HW.out W_ q).2.2.2.2.2.1, (HW.out W_ q).2.2.2.2.2.2.1⟩) A3.out).mono ?_); rintro e w2 ⟨rfl, s, t, hk2⟩; refine ⟨_, rfl, ?_⟩))
     go_ret2
     exact ⟨re, s, t, hk2⟩
   ·have hh := HH.out
    rw [if_neg q2] at hh
    have G : (m2 != 0) = true := by simpa using q2
    clear HH
    simp only [Option.some.injEq, Prod.mk.injEq] at hh
    obtain ⟨rfl, rfl, rfl, rfl⟩ := hh
    go_enter Tryz.func45, Tryz.ntmps45
    go_wp2_with (first | ((with_reducible refine gf 63 rfl ?_); refine gL (some 15) rfl rfl Tryz.func63 rfl #[.pointer (some ⟨gx, 0, none⟩), .agg #[.slice a1 U.1.length c1, .slice a2 U.2.length c2]] rfl ?_; (with_reducible refine (wn.calls k g d j r _ _ U.1 _ _ U.2 n1 0 n3 n4 w0 _ hI hB (fun W_ q => (HW.out W_ q).2.1) l1 (HW.out _ (vr.refl _ g none)).2.2.1 l2 f2 gx (fun W_ q => (CL.out W_ q).1) u.out).mono ?_); rintro e w1 ⟨rfl, hi, hb, hk⟩; refine ⟨_, rfl, ?_⟩; obtain ⟨hy0, hy1, hy2, hy3, hy4, hy5, hy6, hy7, _⟩ := CL.out w1 hk) | ((with_reducible refine gf 63 rfl ?_); refine gL (some 29) rfl rfl Tryz.func63 rfl #[.pointer (some ⟨gx, 0, none⟩), .agg #[.slice a5 C1.1.length c5, .slice a6 C1.2.length c6]] rfl ?_; (with_reducible refine (S1.out _ hk hi hb a5 c5 a6 c6 C1.1 C1.2 l5 l6 f6 (fun W_ q => ⟨(HW.out W_ q).2.2.2.2.2.1, (HW.out W_ q).2.2.2.2.2.2.1⟩) A3.out).mono ?_); rintro e w2 ⟨rfl, s, t, hk2⟩; refine ⟨_, rfl, ?_⟩))
    go_ret2
    exact ⟨re, s, t, hk2⟩
 ·have q : (n2 != 0) = true := by simpa using z
  have hh := HH.out
  rw [if_neg z] at hh
  simp only [Option.some.injEq, Prod.mk.injEq] at hh
  obtain ⟨rfl, rfl, rfl, rfl⟩ := hh
  clear HH
  go_enter Tryz.func45, Tryz.ntmps45
  go_wp2_with (first | ((with_reducible refine gf 63 rfl ?_); refine gL (some 15) rfl rfl Tryz.func63 rfl #[.pointer (some ⟨gx, 0, none⟩), .agg #[.slice a1 U.1.length c1, .slice a2 U.2.length c2]] rfl ?_; (with_reducible refine (wn.calls k g d j r _ _ U.1 _ _ U.2 n1 n2 n3 n4 w0 _ hI hB (fun W_ q => (HW.out W_ q).2.1) l1 (HW.out _ (vr.refl _ g none)).2.2.1 l2 f2 gx (fun W_ q => (CL.out W_ q).1) u.out).mono ?_); rintro e w1 ⟨rfl, hi, hb, hk⟩; refine ⟨_, rfl, ?_⟩))
  go_ret2
  exact ⟨re, hi, hb, hk⟩
def tU : List wb × List ByteArray := ([⟨1, 0, 0, 0⟩, ⟨2, 1, 1, 0⟩, ⟨3, 3, 3, 0⟩, ⟨4, 5, 11, 0⟩, ⟨5, 8, 43, 0⟩, ⟨5, 20, 299, 0⟩], [⟨#[48]⟩, ⟨#[49, 48]⟩, ⟨#[49, 49, 48]⟩, ⟨#[49, 49, 49, 48]⟩, ⟨#[49, 49, 49, 49, 48]⟩, ⟨#[49, 49, 49, 49, 49]⟩])
def qf : List wb × List ByteArray := ([⟨2, 2, 0, 0⟩, ⟨2, 3, 4, 0⟩, ⟨2, 4, 12, 0⟩, ⟨2, 6, 28, 0⟩], [⟨#[48, 48]⟩, ⟨#[48, 49]⟩, ⟨#[49, 48]⟩, ⟨#[49, 49]⟩])
def qk : List wb × List ByteArray := ([⟨1, 1, 0, 0⟩, ⟨2, 1, 2, 0⟩, ⟨3, 2, 4, 0⟩, ⟨3, 6, 8, 0⟩], [⟨#[48]⟩, ⟨#[49, 48]⟩, ⟨#[49, 49, 48]⟩, ⟨#[49, 49, 49]⟩])
def tW : List ByteArray := [⟨#[48, 48, 48, 49]⟩, ⟨#[48, 48, 49]⟩, ⟨#[48, 48, 48, 48, 48, 49, 48]⟩, ⟨#[48, 48, 48, 48, 49, 48]⟩, ⟨#[48, 49, 48]⟩, ⟨#[49]⟩, ⟨#[48, 49, 49]⟩, ⟨#[48, 48, 48, 48, 49, 49]⟩, ⟨#[48, 48, 48, 48, 48, 49, 49]⟩]
def wY.f (k : Nat) (d : List Int) (e : Int) (j : Bool) (a1 : Int) : Option (Int × Int × Int × Bool) :=
 if a1 = 0 ∨ a1 = 1 then yO.f k tU qf qk d e j a1 else none
theorem wY.mono : ∀ a0 a1 a2 a3 k, vK (wY.f k a0 a1 a2 a3) (wY.f (k + 1) a0 a1 a2 a3) := by
 intro a0 a1 a2 a3 k
 unfold wY.f
 refine vK.ite ?_ (vK.refl _)
 unfold yO.f
 refine vK.bind (wn.mono _ _ _ _ _ k) (fun n => ?_)
 refine vK.ite ?_ (vK.refl _)
 exact vK.bind (wn.mono _ _ _ _ _ k) (fun m => vK.refl _)
theorem wY.calls (k : Nat) (g : Nat) (d : List Int) (j : Int) (q : Bool) (a1 : Int) (r1 r2 r3 : Int) (r4 : Bool) (w0 w : World) (hI : vo w0 w g d j q) (hB : Below w0.heap.size w0 w) (gx : Nat) (hX : Xok g gx tU qf qk tW w) (h : wY.f k d j q a1 = some (r1, r2, r3, r4)) :
  Calls Tryz.prog 45 #[.pointer (some ⟨gx, 0, none⟩), .int .i64 a1] w fun e w' => e = .returned (.tuple #[.int .i64 r1, .int .i64 r2]) ∧ vo w0 w' g d r3 r4 ∧ Below w0.heap.size w0 w' ∧ vr w w' g none := by
 unfold wY.f at h
 by_cases hc : a1 = 0 ∨ a1 = 1
 ·rw [if_pos hc] at h
  exact yO.calls k g gx tU qf qk tW d j q a1 hc r1 r2 r3 r4 w0 w hI hB hX h
 ·rw [if_neg hc] at h
  exact absurd h (by simp)
def ky.f (a0 : Int) (a1 : Int) : Option (Int × Int) := some (((IntKind.u64.wrap ((IntKind.u64.wrap (a0)) * (IntKind.u64.wrap (a1)))) / 4294967296) % 4294967296, (IntKind.u64.wrap ((IntKind.u64.wrap (a0)) * (IntKind.u64.wrap (a1)))) % 4294967296)
theorem ky.calls (a0 : Int) (a1 : Int) (r1 : Int) (r2 : Int) (w : World) (h : ky.f a0 a1 = some (r1, r2)) :
  Calls Tryz.prog 85 #[.int .u32 a0, .int .u32 a1] w fun e w' => e = .returned (.tuple #[.int .u32 r1, .int .u32 r2]) ∧ wl w w' := by
 have H := h
 unfold ky.f at H
 clear h
 simp only [Option.some.injEq, Prod.mk.injEq] at H
 obtain ⟨rfl, rfl⟩ := H
 go_enter Tryz.func85, Tryz.ntmps85
 go_wp2
 go_ret2
 exact ⟨by first | rfl | (simp; done) | (simp [*]; done), by repeat (first | exact wl.refl _ | apply wl.step)⟩
def bits_Mul64.f (a0 : Int) (a1 : Int) : Option (Int × Int) := some (IntKind.u64.wrap ((IntKind.u64.wrap ((IntKind.u64.wrap ((a0 / 4294967296) * (a1 / 4294967296))) + ((IntKind.u64.wrap ((IntKind.u64.wrap ((a0 / 4294967296) * (Go.bits .and .u64 a1 4294967295))) + ((IntKind.u64.wrap ((Go.bits .and .u64 a0 4294967295) * (Go.bits .and .u64 a1 4294967295))) / 4294967296))) / 4294967296))) + ((IntKind.u64.wrap ((Go.bits .and .u64 (IntKind.u64.wrap ((IntKind.u64.wrap ((a0 / 4294967296) * (Go.bits .and .u64 a1 4294967295))) + ((IntKind.u64.wrap ((Go.bits .and .u64 a0 4294967295) * (Go.bits .and .u64 a1 4294967295))) / 4294967296))) 4294967295) + (IntKind.u64.wrap ((Go.bits .and .u64 a0 4294967295) * (a1 / 4294967296))))) / 4294967296)), IntKind.u64.wrap (a0 * a1))
theorem bits_Mul64.calls (a0 : Int) (a1 : Int) (r1 : Int) (r2 : Int) (w : World) (h : bits_Mul64.f a0 a1 = some (r1, r2)) :
  Calls Tryz.prog 86 #[.int .u64 a0, .int .u64 a1] w fun e w' => e = .returned (.tuple #[.int .u64 r1, .int .u64 r2]) ∧ wl w w' := by
 have H := h
 unfold bits_Mul64.f at H
 clear h
 simp only [Option.some.injEq, Prod.mk.injEq] at H
 obtain ⟨rfl, rfl⟩ := H
 go_enter Tryz.func86, Tryz.ntmps86
 go_wp2
 go_ret2
 exact ⟨by first | rfl | (simp; done) | (simp [*]; done), by repeat (first | exact wl.refl _ | apply wl.step)⟩
def bits_Mul.f (a0 : Int) (a1 : Int) : Option (Int × Int) := (bits_Mul64.f a0 a1).bind fun d => (some (d.1, d.2))
theorem bits_Mul.calls (a0 : Int) (a1 : Int) (r1 : Int) (r2 : Int) (w : World) (h : bits_Mul.f a0 a1 = some (r1, r2)) :
  Calls Tryz.prog 64 #[.int .u64 a0, .int .u64 a1] w fun e w' => e = .returned (.tuple #[.int .u64 r1, .int .u64 r2]) ∧ wl w w' := by
 have H : ((bits_Mul64.f a0 a1).bind fun d => (some (d.1, d.2))) = some (r1, r2) := h
 clear h
 obtain ⟨⟨j, k⟩, A3, H⟩ := oB H
 try dsimp only at H
 simp only [Option.some.injEq, Prod.mk.injEq] at H
 obtain ⟨rfl, rfl⟩ := H
 go_enter Tryz.func64, Tryz.ntmps64
 go_wp2_with (first | ((with_reducible refine gf 86 rfl ?_); refine gL (some 25) rfl rfl Tryz.func86 rfl #[.int .u64 a0, .int .u64 a1] rfl ?_; (with_reducible refine (bits_Mul64.calls a0 a1 j k _ A3.out).mono ?_); rintro e w' ⟨rfl, ⟨nd, rfl⟩⟩; refine ⟨_, rfl, ?_⟩))
 go_ret2
 exact ⟨by first | rfl | (simp; done) | (simp [*]; done), by repeat (first | exact wl.refl _ | apply wl.step)⟩
end Go.Proofs.YtknclbodinfbeaaGreatDoor.PRunsBack
