-- printed (wip/tools/myprint.py)
import Derived.Test.YtknclbodinfbeaaDoorPRunsSamex0
import Derived.Test.YtknclbodinfbeaaDoorPRunsSamex5
import Derived.Test.YtknclbodinfbeaaDoorPRunsSamex6
import Derived.Test.YtknclbodinfbeaaDoorPRunsSamex7
import Derived.Test.YtknclbodinfbeaaDoorPRunsSamex9
import Derived.Test.YtknclbodinfbeaaDoorPRunsSamex14
import Derived.Test.YtknclbodinfbeaaDoorPRunsSamex18
namespace Go.Proofs.YtknclbodinfbeaaDoor.PRunsSame
open Go.RowKit Go.Proofs.YtknclbodinfbeaaDoorW.PrintWords Go.Proofs.YtknclbodinfbeaaDoorW.PrintLast Go.Proofs.YtknclbodinfbeaaDoorW.PrintMore
attribute [local go_sem] yf yc yD yE xV xU ye yh
set_option linter.unusedVariables false
set_option linter.unusedSimpArgs false
mutual
def vp.j0 : Nat → List Int → Int → Bool → Option (Bool)
 | 0, _, _, _ => none
 | k + 1, x0, x1, x37 => if x37 = true then ((vI.f k).bind fun t607 => (some t607)) else (vp.l0 k x0 x1 0 (x0.length : Int) 0 (x0.length : Int) x1)
def vp.l0 : Nat → List Int → Int → Int → Int → Int → Int → Int → Option (Bool)
 | 0, _, _, _, _, _, _, _ => none
 | k + 1, x0, x1, x6, x44, x45, x609000, x609001 => if x45 < x44 then (if x45 = 0 then (if 0 < (x0.length : Int) then (if (rd x0 0) = 1 then (vp.l0 k x0 x1 (wrap64 (x6 + 1)) x44 (wrap64 (x45 + 1)) x609000 x609001) else (if x45 > 0 then (if 0 ≤ x45 then (if x45 < (x0.length : Int) then (if 0 ≤ (wrap64 (x45 - 1)) then (if (wrap64 (x45 - 1)) < (x0.length : Int) then (if (rd x0 x45) = (rd x0 (wrap64 (x45 - 1))) then (vp.l0 k x0 x1 x6 x44 (wrap64 (x45 + 1)) x609000 x609001) else (vp.l0 k x0 x1 (wrap64 (x6 + 1)) x44 (wrap64 (x45 + 1)) x609000 x609001)) else (none)) else (none)) else (none)) else (none)) else (vp.l0 k x0 x1 x6 x44 (wrap64 (x45 + 1)) x609000 x609001))) else (none)) else (if x45 > 0 then (if 0 ≤ x45 then (if x45 < (x0.length : Int) then (if 0 ≤ (wrap64 (x45 - 1)) then (if (wrap64 (x45 - 1)) < (x0.length : Int) then (if (rd x0 x45) = (rd x0 (wrap64 (x45 - 1))) then (vp.l0 k x0 x1 x6 x44 (wrap64 (x45 + 1)) x609000 x609001) else (vp.l0 k x0 x1 (wrap64 (x6 + 1)) x44 (wrap64 (x45 + 1)) x609000 x609001)) else (none)) else (none)) else (none)) else (none)) else (vp.l0 k x0 x1 x6 x44 (wrap64 (x45 + 1)) x609000 x609001))) else (vp.l1 k x0 x1 x6 x1 0 x609000 x609001 ([] : List Int))
def vp.l1 : Nat → List Int → Int → Int → Int → Int → Int → Int → List Int → Option (Bool)
 | 0, _, _, _, _, _, _, _, _ => none
 | k + 1, x0, x1, x6, x75, x76, x609000, x609001, x609002 => if x76 < x75 then (if x609002.length + x0.length < 140737488355328 then (vp.l1 k x0 x1 x6 x75 (wrap64 (x76 + 1)) x609000 x609001 (x609002 ++ x0)) else (none)) else ((xd.f k x609000 x609001 x609002).bind fun bt617 => (if bt617.2 = 0 then ((vt.f k (x0.length : Int) 1 x0).bind fun t621 => ((yg.f k bt617.1 x609000 x609001).bind fun bt624 => ((wt.f k x0 x0).bind fun bt632 => (if bt624.2.2.2.2 = 0 then (if bt632.2 = 0 then (if bt624.2.2.2.1 = (wrap64 ((t621.length : Int) + (wrap64 ((wrap64 (x1 - 1)) * (wrap64 (x6 + 1)))))) then (if (bt632.1.length : Int) = (wrap64 (x6 + 1)) then ((vI.f k).bind fun t636 => (some t636)) else (some false)) else (some false)) else (some false)) else (some false))))) else (some false)))
end
def vp.f (k : Nat) (l0 : List Int) (a1 : Int) : Option (Bool) := (wQ.f k l0).bind fun t606 => (if t606 = true then (if (l0.length : Int) = 0 then (vp.j0 k l0 a1 true) else (if a1 < 1 then (vp.j0 k l0 a1 true) else (if a1 > 20 then (vp.j0 k l0 a1 true) else (vp.j0 k l0 a1 (decide ((wrap64 ((l0.length : Int) * a1)) > 8192)))))) else (vp.j0 k l0 a1 true))
theorem vp.wj : ∀ k, (∀ y0 y1 y2, vP (vp.j0 k y0 y1 y2) (vp.j0 (k + 1) y0 y1 y2)) ∧ (∀ y0 y1 y2 y3 y4 y5 y6, vP (vp.l0 k y0 y1 y2 y3 y4 y5 y6) (vp.l0 (k + 1) y0 y1 y2 y3 y4 y5 y6)) ∧ (∀ y0 y1 y2 y3 y4 y5 y6 y7, vP (vp.l1 k y0 y1 y2 y3 y4 y5 y6 y7) (vp.l1 (k + 1) y0 y1 y2 y3 y4 y5 y6 y7))
 | 0 => ⟨fun _ _ _ r h => by simp [vp.j0] at h, fun _ _ _ _ _ _ _ r h => by simp [vp.l0] at h, fun _ _ _ _ _ _ _ _ r h => by simp [vp.l1] at h⟩
 | k + 1 => by
  obtain ⟨ih0, ih1, ih2⟩ := vp.wj k
  refine ⟨?_, ?_, ?_⟩
  ·intro y0 y1 y2
   unfold vp.j0
   repeat' first
   | (with_reducible exact ih0 _ _ _)
   | (with_reducible exact ih1 _ _ _ _ _ _ _)
   | (with_reducible exact ih2 _ _ _ _ _ _ _ _)
   | (with_reducible exact vI.mono _)
   | (with_reducible exact wQ.mono _ _)
   | (with_reducible exact vt.mono _ _ _ _)
   | (with_reducible exact yg.mono _ _ _ _)
   | (with_reducible exact wt.mono _ _ _)
   | (with_reducible exact xd.mono _ _ _ _)
   | (with_reducible first | exact vP.refl _ | exact vP.none _ | apply vP.ite | refine vP.bind ?_ fun _ => ?_)
  ·intro y0 y1 y2 y3 y4 y5 y6
   unfold vp.l0
   repeat' first
   | (with_reducible exact ih0 _ _ _)
   | (with_reducible exact ih1 _ _ _ _ _ _ _)
   | (with_reducible exact ih2 _ _ _ _ _ _ _ _)
   | (with_reducible exact vI.mono _)
   | (with_reducible exact wQ.mono _ _)
   | (with_reducible exact vt.mono _ _ _ _)
   | (with_reducible exact yg.mono _ _ _ _)
   | (with_reducible exact wt.mono _ _ _)
   | (with_reducible exact xd.mono _ _ _ _)
   | (with_reducible first | exact vP.refl _ | exact vP.none _ | apply vP.ite | refine vP.bind ?_ fun _ => ?_)
  ·intro y0 y1 y2 y3 y4 y5 y6 y7
   unfold vp.l1
   repeat' first
   | (with_reducible exact ih0 _ _ _)
   | (with_reducible exact ih1 _ _ _ _ _ _ _)
   | (with_reducible exact ih2 _ _ _ _ _ _ _ _)
   | (with_reducible exact vI.mono _)
   | (with_reducible exact wQ.mono _ _)
   | (with_reducible exact vt.mono _ _ _ _)
   | (with_reducible exact yg.mono _ _ _ _)
   | (with_reducible exact wt.mono _ _ _)
   | (with_reducible exact xd.mono _ _ _ _)
   | (with_reducible first | exact vP.refl _ | exact vP.none _ | apply vP.ite | refine vP.bind ?_ fun _ => ?_)
theorem vp.mono : ∀ a0 a1 k, vP (vp.f k a0 a1) (vp.f (k + 1) a0 a1) := by
 intro a0 a1 k
 obtain ⟨ih0, ih1, ih2⟩ := vp.wj k
 unfold vp.f
 repeat' first
   | (with_reducible exact ih0 _ _ _)
   | (with_reducible exact ih1 _ _ _ _ _ _ _)
   | (with_reducible exact ih2 _ _ _ _ _ _ _ _)
   | (with_reducible exact vI.mono _)
   | (with_reducible exact wQ.mono _ _)
   | (with_reducible exact vt.mono _ _ _ _)
   | (with_reducible exact yg.mono _ _ _ _)
   | (with_reducible exact wt.mono _ _ _)
   | (with_reducible exact xd.mono _ _ _ _)
   | (with_reducible first | exact vP.refl _ | exact vP.none _ | apply vP.ite | refine vP.bind ?_ fun _ => ?_)
set_option maxHeartbeats 8000000 in
set_option maxRecDepth 100000 in
theorem vp.calls (k : Nat) (A0 : Option Addr) (c0 : Nat) (l0 : List Int) (a1 : Int) (r : Bool) (w : World) (hT0 : TIs w) (hr0 : Kd.C (Kd.int .u8) w A0 l0.length l0) (hc0 : l0.length ≤ c0) (h : vp.f k l0 a1 = some r) (hr_ : r = true) :
  Calls Tryd.prog 11 #[.slice A0 l0.length c0, .int .i64 a1] w fun e w' => e = .returned (.bool r) ∧ Below w.heap.size w w' := by
 have HTI := Aside0.mk hT0
 clear hT0
 have HR_ := Aside0.mk hr_
 clear hr_
 have hu48 := Tryd.underlying48
 have HR0 := Aside0.mk hr0
 have HC0 := Aside0.mk hc0
 clear hr0 hc0
 have HB := Aside0.mk (Below.refl w.heap.size w)
 have H := h
 unfold vp.f at H
 clear h
 have HC3 := Aside0.mk H
 clear H
 go_enter Tryd.func11, Tryd.ntmps11
 go_upto_region 1 with (fail)
 go_cut [37] (fun v37 wc => ∃ (kq : Nat) (x37_2 : Bool), v37 = .bool x37_2 ∧ Aside0 (vp.j0 kq l0 a1 x37_2 = some r) ∧ Aside0 (kq ≤ k) ∧ Aside0 (Below w.heap.size w wc))
 case first =>
  have H := HC3.out
  clear HC3
  obtain ⟨t606, A4, H⟩ := oB H
  try dsimp only at H
  by_cases c5 : t606 = true
  ·subst c5
   rw [if_pos rfl] at H
   rcases iE H with H1 | H1 <;> clear H <;> obtain ⟨H, c6b0, c6b1, c6⟩ := H1
   ·(first | rw [c6b0] | (simp only [xD, zm]; rw [c6b0]) | skip)
    have H' := Aside0.mk H
    clear H
    go_wp2_with (first | (go_at_call 17; (with_reducible refine (wQ.calls k _ _ l0 true _ ?side1 ?side2 A4.out).mono ?_); (case side1 => exact cU (Kd.wO HR0.out HB.out)); (case side2 => exact HC0.out); rintro e w' ⟨rfl, ⟨nd, rfl⟩⟩; (try first | exact ⟨rfl, _, World.drewN_drewN _ _ _⟩ | exact ⟨rfl, _, Eq.trans (World.drewN_drewN _ _ _) (congrArg (World.drewN _) (Nat.add_assoc _ _ _))⟩)))
    go_meet
    case rel => exact ⟨_, (true), rq, H', ⟨by first | omega | exact Nat.le_refl _⟩, ⟨bl⟩⟩
   ·have c6b2 : ¬ (l0 = []) := fun h_ => c6 (by rw [h_]; rfl)
    (first | rw [c6b0] | (simp only [xD, zm]; rw [c6b0]) | skip)
    rcases iL H with H1 | H1 <;> clear H <;> obtain ⟨H, c7b0⟩ := H1
    ·have H' := Aside0.mk H
     clear H
     go_wp2_with (first | (go_at_call 17; (with_reducible refine (wQ.calls k _ _ l0 true _ ?side1 ?side2 A4.out).mono ?_); (case side1 => exact cU (Kd.wO HR0.out HB.out)); (case side2 => exact HC0.out); rintro e w' ⟨rfl, ⟨nd, rfl⟩⟩; (try first | exact ⟨rfl, _, World.drewN_drewN _ _ _⟩ | exact ⟨rfl, _, Eq.trans (World.drewN_drewN _ _ _) (congrArg (World.drewN _) (Nat.add_assoc _ _ _))⟩)))
     go_meet
     case rel => exact ⟨_, (true), rq, H', ⟨by first | omega | exact Nat.le_refl _⟩, ⟨bl⟩⟩
    ·rcases iL H with H1 | H1 <;> clear H <;> obtain ⟨H, c8b0⟩ := H1
     ·have H' := Aside0.mk H
      clear H
      go_wp2_with (first | (go_at_call 17; (with_reducible refine (wQ.calls k _ _ l0 true _ ?side1 ?side2 A4.out).mono ?_); (case side1 => exact cU (Kd.wO HR0.out HB.out)); (case side2 => exact HC0.out); rintro e w' ⟨rfl, ⟨nd, rfl⟩⟩; (try first | exact ⟨rfl, _, World.drewN_drewN _ _ _⟩ | exact ⟨rfl, _, Eq.trans (World.drewN_drewN _ _ _) (congrArg (World.drewN _) (Nat.add_assoc _ _ _))⟩)))
      go_meet
      case rel => exact ⟨_, (true), rq, H', ⟨by first | omega | exact Nat.le_refl _⟩, ⟨bl⟩⟩
     ·have H' := Aside0.mk H
      clear H
      go_wp2_with (first | (go_at_call 17; (with_reducible refine (wQ.calls k _ _ l0 true _ ?side1 ?side2 A4.out).mono ?_); (case side1 => exact cU (Kd.wO HR0.out HB.out)); (case side2 => exact HC0.out); rintro e w' ⟨rfl, ⟨nd, rfl⟩⟩; (try first | exact ⟨rfl, _, World.drewN_drewN _ _ _⟩ | exact ⟨rfl, _, Eq.trans (World.drewN_drewN _ _ _) (congrArg (World.drewN _) (Nat.add_assoc _ _ _))⟩)))
      go_meet
      case rel => exact ⟨_, (decide ((wrap64 ((l0.length : Int) * a1)) > 8192)), rq, H', ⟨by first | omega | exact Nat.le_refl _⟩, ⟨bl⟩⟩
  ·replace c5 := Bool.eq_false_iff.mpr c5
   subst c5
   rw [if_neg Bool.false_ne_true] at H
   have H' := Aside0.mk H
   clear H
   go_wp2_with (first | (go_at_call 17; (with_reducible refine (wQ.calls k _ _ l0 false _ ?side1 ?side2 A4.out).mono ?_); (case side1 => exact cU (Kd.wO HR0.out HB.out)); (case side2 => exact HC0.out); rintro e w' ⟨rfl, ⟨nd, rfl⟩⟩; (try first | exact ⟨rfl, _, World.drewN_drewN _ _ _⟩ | exact ⟨rfl, _, Eq.trans (World.drewN_drewN _ _ _) (congrArg (World.drewN _) (Nat.add_assoc _ _ _))⟩)))
   go_meet
   case rel => exact ⟨_, (true), rq, H', ⟨by first | omega | exact Nat.le_refl _⟩, ⟨bl⟩⟩
 case rest =>
  clear HC3
  obtain ⟨kq, x37_2, rfl, HA, HJ2, HB⟩ := hcut
  cases kq with
  | zero => exact absurd HA.out (by simp [vp.j0])
  | succ kj2 =>
   have H := HA.out
   clear HA
   simp only [vp.j0] at H
   by_cases c9 : x37_2 = true
   ·subst c9
    rw [if_pos rfl] at H
    obtain ⟨t607, A10, H⟩ := oB H
    try dsimp only at H
    obtain rfl := Option.some.inj H
    go_wp2_with (first | (go_at_call 13; (with_reducible refine (vI.calls kj2  t607 _ (TIs.on HTI) A10.out).mono ?_); rintro e w11 ⟨rfl, hb⟩; have n_ := aE (bs hb); clear HB; have HB := n_; clear n_))
    go_ret
    exact ⟨re, bl⟩
   ·replace c9 := Bool.eq_false_iff.mpr c9
    subst c9
    rw [if_neg Bool.false_ne_true] at H
    have H' := Aside0.mk H
    clear H
    go_wp2_with (first | ((with_reducible refine gd 5 rfl ?_); (try (refine yb (by rfl) ?_; dsimp only)); refine bx 5 #[.int .i64 0, .int .i64 0, .slice none 0 0] 48 rfl rfl ?_; intro gb608 hg w12 hbox hb; have n_ := aC (bs hb) (aC hbox (aC (gz hg) (aE (gz hg)))); clear HB; obtain ⟨HB, BK608, GW608, GE608⟩ := n_; clear hb hbox hg; obtain ⟨hcz13_0, hcz13_1, hcz13_2, hfz13_0, hfz13_1, hfz13_2⟩ := zo BK608.out))
    go_loopg [6, 45] kj2 (fun kq v6 v45 w' => ∃ (x6_2 : Int) (x45_2 : Int), v6 = .int .i64 x6_2 ∧ v45 = .int .i64 x45_2 ∧ Aside0 (vp.l0 kq l0 a1 x6_2 (l0.length : Int) x45_2 (l0.length : Int) a1 = some r) ∧ Aside0 (kq ≤ kj2) ∧ Aside0 (w'.heap[gb608]? = some (.cells #[.int .i64 (l0.length : Int), .int .i64 a1, (.slice none 0 0)] 48 (0, 0))) ∧ Aside0 (Below w.heap.size w w'))
    case atStart => exact ⟨(0), (0), rq, rq, H', ⟨Nat.le_refl _⟩, ⟨by (with_reducible repeat first | apply vl | apply vn | apply vm); refine vv (cs := #[.int .i64 (l0.length : Int), .int .i64 a1, .slice none 0 0]) ?_ 2 _ rfl; (with_reducible repeat first | apply vl | apply vn | apply vm); refine vv (cs := #[.int .i64 (l0.length : Int), .int .i64 0, .slice none 0 0]) ?_ 1 _ rfl; (with_reducible repeat first | apply vl | apply vn | apply vm); refine vv (cs := #[.int .i64 0, .int .i64 0, .slice none 0 0]) ?_ 0 _ rfl; (with_reducible repeat first | apply vl | apply vn | apply vm); exact BK608.out⟩, ⟨bl⟩⟩
    case round =>
     clear H'
     obtain ⟨x6_2, x45_2, rfl, rfl, HA, HK2, BK608, HB⟩ := hrel
     cases gk with
     | zero => exact absurd HA.out (by simp [vp.l0])
     | succ k2 =>
      have H := HA.out
      clear HA
      simp only [vp.l0] at H
      rcases iL H with H1 | H1 <;> clear H <;> obtain ⟨H, c14b0⟩ := H1
      ·rcases iE H with H1 | H1 <;> clear H <;> obtain ⟨H, c15b0, c15b1, c15⟩ := H1
       ·by_cases c16 : 0 < (l0.length : Int)
        ·rw [if_pos c16] at H
         have c16b0 := decide_eq_true c16
         have c16b1 : decide (0 < l0.length) = true := decide_eq_true (by omega)
         clear c16
         rcases iE H with H1 | H1 <;> clear H <;> obtain ⟨H, c17b0, c17b1, c17⟩ := H1
         ·have H' := Aside0.mk H
          clear H
          have p609 : 0 ≤ (0 : Int) := (by omega)
          have q609 : 0 < (l0.length : Int) := dt
          obtain ⟨ad609, e609, hx609_0⟩ := Kd.xL HR0.out 0 p609 q609
          cases e609
          have qi609 : (0 < l0.length) = True := eq_true (by omega)
          (try rw [show ((0 : Int)).toNat = 0 from rfl] at hx609_0)
          (try rw [Addr.add_zero'] at hx609_0)
          replace hx609_0 := hcB HB.out hx609_0
          replace p609 := eq_true p609
          replace q609 := eq_true q609
          go_wp2
          repeat (go_quiet (fail); try go_wp2)
          go_roundg k2
          case measure => have := HJ2.out; have := HK2.out; omega
          case rel => exact ⟨(wrap64 (x6_2 + 1)), (wrap64 (x45_2 + 1)), rq, rq, H', ⟨by have := HJ2.out; have := HK2.out; omega⟩, ⟨bU BK608.out⟩, ⟨bl⟩⟩
         ·rcases iL H with H1 | H1 <;> clear H <;> obtain ⟨H, c18b0⟩ := H1
          ·by_cases c19 : 0 ≤ x45_2
           ·rw [if_pos c19] at H
            have c19b0 := decide_eq_true c19
            clear c19
            by_cases c20 : x45_2 < (l0.length : Int)
            ·rw [if_pos c20] at H
             have c20b0 := decide_eq_true c20
             clear c20
             obtain ⟨ji21, hji21⟩ : ∃ j_ : Int, (wrap64 (x45_2 - 1)) = j_ := ⟨_, rfl⟩
             replace H : (if 0 ≤ (ji21) then (if (ji21) < (l0.length : Int) then (if (rd l0 x45_2) = (rd l0 (ji21)) then (vp.l0 k2 l0 a1 x6_2 (l0.length : Int) (wrap64 (x45_2 + 1)) (l0.length : Int) a1) else (vp.l0 k2 l0 a1 (wrap64 (x6_2 + 1)) (l0.length : Int) (wrap64 (x45_2 + 1)) (l0.length : Int) a1)) else (none)) else (none)) = some r := by first | (rw [hji21] at H; exact H) | (simp only [hji21] at H ⊢; exact H)
             have hji21w : (IntKind.i64.wrap (x45_2 - 1)) = ji21 := (xD _).trans hji21
             by_cases c22 : 0 ≤ (ji21)
             ·rw [if_pos c22] at H
              have c22b0 := decide_eq_true c22
              clear c22
              by_cases c23 : (ji21) < (l0.length : Int)
              ·rw [if_pos c23] at H
               have c23b0 := decide_eq_true c23
               clear c23
               rcases iE H with H1 | H1 <;> clear H <;> obtain ⟨H, c24b0, c24b1, c24⟩ := H1
               ·have H' := Aside0.mk H
                clear H
                have p609 : 0 ≤ (0 : Int) := (by omega)
                have q609 : 0 < (l0.length : Int) := dt
                obtain ⟨ad609, e609, hx609_0⟩ := Kd.xL HR0.out 0 p609 q609
                cases e609
                have qi609 : (0 < l0.length) = True := eq_true (by omega)
                (try rw [show ((0 : Int)).toNat = 0 from rfl] at hx609_0)
                (try rw [Addr.add_zero'] at hx609_0)
                replace hx609_0 := hcB HB.out hx609_0
                replace p609 := eq_true p609
                replace q609 := eq_true q609
                have p610 : 0 ≤ (x45_2 : Int) := dt
                have q610 : x45_2 < (l0.length : Int) := dt
                obtain ⟨ad610, e610, hx610_0⟩ := Kd.xL HR0.out x45_2 p610 q610
                obtain rfl : ad609 = ad610 := (by injection e610)
                replace hx610_0 := hcB HB.out hx610_0
                replace p610 := eq_true p610
                replace q610 := eq_true q610
                have p611 : 0 ≤ ((ji21) : Int) := dt
                have q611 : (ji21) < (l0.length : Int) := dt
                obtain ⟨ad611, e611, hx611_0⟩ := Kd.xL HR0.out (ji21) p611 q611
                obtain rfl : ad609 = ad611 := (by injection e611)
                replace hx611_0 := hcB HB.out hx611_0
                replace p611 := eq_true p611
                replace q611 := eq_true q611
                go_wp2
                repeat (go_quiet (fail); try go_wp2)
                go_roundg k2
                case measure => have := HJ2.out; have := HK2.out; omega
                case rel => exact ⟨(x6_2), (wrap64 (x45_2 + 1)), rq, rq, H', ⟨by have := HJ2.out; have := HK2.out; omega⟩, ⟨bU BK608.out⟩, ⟨bl⟩⟩
               ·have H' := Aside0.mk H
                clear H
                have p609 : 0 ≤ (0 : Int) := (by omega)
                have q609 : 0 < (l0.length : Int) := dt
                obtain ⟨ad609, e609, hx609_0⟩ := Kd.xL HR0.out 0 p609 q609
                cases e609
                have qi609 : (0 < l0.length) = True := eq_true (by omega)
                (try rw [show ((0 : Int)).toNat = 0 from rfl] at hx609_0)
                (try rw [Addr.add_zero'] at hx609_0)
                replace hx609_0 := hcB HB.out hx609_0
                replace p609 := eq_true p609
                replace q609 := eq_true q609
                have p610 : 0 ≤ (x45_2 : Int) := dt
                have q610 : x45_2 < (l0.length : Int) := dt
                obtain ⟨ad610, e610, hx610_0⟩ := Kd.xL HR0.out x45_2 p610 q610
                obtain rfl : ad609 = ad610 := (by injection e610)
                replace hx610_0 := hcB HB.out hx610_0
                replace p610 := eq_true p610
                replace q610 := eq_true q610
                have p611 : 0 ≤ ((ji21) : Int) := dt
                have q611 : (ji21) < (l0.length : Int) := dt
                obtain ⟨ad611, e611, hx611_0⟩ := Kd.xL HR0.out (ji21) p611 q611
                obtain rfl : ad609 = ad611 := (by injection e611)
                replace hx611_0 := hcB HB.out hx611_0
                replace p611 := eq_true p611
                replace q611 := eq_true q611
                go_wp2
                repeat (go_quiet (fail); try go_wp2)
                go_roundg k2
                case measure => have := HJ2.out; have := HK2.out; omega
                case rel => exact ⟨(wrap64 (x6_2 + 1)), (wrap64 (x45_2 + 1)), rq, rq, H', ⟨by have := HJ2.out; have := HK2.out; omega⟩, ⟨bU BK608.out⟩, ⟨bl⟩⟩
              ·rw [if_neg c23] at H
               exact absurd H (by simp)
             ·rw [if_neg c22] at H
              exact absurd H (by simp)
            ·rw [if_neg c20] at H
             exact absurd H (by simp)
           ·rw [if_neg c19] at H
            exact absurd H (by simp)
          ·have H' := Aside0.mk H
           clear H
           have p609 : 0 ≤ (0 : Int) := (by omega)
           have q609 : 0 < (l0.length : Int) := dt
           obtain ⟨ad609, e609, hx609_0⟩ := Kd.xL HR0.out 0 p609 q609
           cases e609
           have qi609 : (0 < l0.length) = True := eq_true (by omega)
           (try rw [show ((0 : Int)).toNat = 0 from rfl] at hx609_0)
           (try rw [Addr.add_zero'] at hx609_0)
           replace hx609_0 := hcB HB.out hx609_0
           replace p609 := eq_true p609
           replace q609 := eq_true q609
           go_wp2
           repeat (go_quiet (fail); try go_wp2)
           go_roundg k2
           case measure => have := HJ2.out; have := HK2.out; omega
           case rel => exact ⟨(x6_2), (wrap64 (x45_2 + 1)), rq, rq, H', ⟨by have := HJ2.out; have := HK2.out; omega⟩, ⟨bU BK608.out⟩, ⟨bl⟩⟩
        ·rw [if_neg c16] at H
         exact absurd H (by simp)
       ·rcases iL H with H1 | H1 <;> clear H <;> obtain ⟨H, c25b0⟩ := H1
        ·by_cases c26 : 0 ≤ x45_2
         ·rw [if_pos c26] at H
          have c26b0 := decide_eq_true c26
          clear c26
          by_cases c27 : x45_2 < (l0.length : Int)
          ·rw [if_pos c27] at H
           have c27b0 := decide_eq_true c27
           clear c27
           obtain ⟨ji28, hji28⟩ : ∃ j_ : Int, (wrap64 (x45_2 - 1)) = j_ := ⟨_, rfl⟩
           replace H : (if 0 ≤ (ji28) then (if (ji28) < (l0.length : Int) then (if (rd l0 x45_2) = (rd l0 (ji28)) then (vp.l0 k2 l0 a1 x6_2 (l0.length : Int) (wrap64 (x45_2 + 1)) (l0.length : Int) a1) else (vp.l0 k2 l0 a1 (wrap64 (x6_2 + 1)) (l0.length : Int) (wrap64 (x45_2 + 1)) (l0.length : Int) a1)) else (none)) else (none)) = some r := by first | (rw [hji28] at H; exact H) | (simp only [hji28] at H ⊢; exact H)
           have hji28w : (IntKind.i64.wrap (x45_2 - 1)) = ji28 := (xD _).trans hji28
           by_cases c29 : 0 ≤ (ji28)
           ·rw [if_pos c29] at H
            have c29b0 := decide_eq_true c29
            clear c29
            by_cases c30 : (ji28) < (l0.length : Int)
            ·rw [if_pos c30] at H
             have c30b0 := decide_eq_true c30
             clear c30
             rcases iE H with H1 | H1 <;> clear H <;> obtain ⟨H, c31b0, c31b1, c31⟩ := H1
             ·have H' := Aside0.mk H
              clear H
              have p612 : 0 ≤ (x45_2 : Int) := dt
              have q612 : x45_2 < (l0.length : Int) := dt
              obtain ⟨ad612, e612, hx612_0⟩ := Kd.xL HR0.out x45_2 p612 q612
              cases e612
              replace hx612_0 := hcB HB.out hx612_0
              replace p612 := eq_true p612
              replace q612 := eq_true q612
              have p613 : 0 ≤ ((ji28) : Int) := dt
              have q613 : (ji28) < (l0.length : Int) := dt
              obtain ⟨ad613, e613, hx613_0⟩ := Kd.xL HR0.out (ji28) p613 q613
              obtain rfl : ad612 = ad613 := (by injection e613)
              replace hx613_0 := hcB HB.out hx613_0
              replace p613 := eq_true p613
              replace q613 := eq_true q613
              go_wp2
              repeat (go_quiet (fail); try go_wp2)
              go_roundg k2
              case measure => have := HJ2.out; have := HK2.out; omega
              case rel => exact ⟨(x6_2), (wrap64 (x45_2 + 1)), rq, rq, H', ⟨by have := HJ2.out; have := HK2.out; omega⟩, ⟨bU BK608.out⟩, ⟨bl⟩⟩
             ·have H' := Aside0.mk H
              clear H
              have p612 : 0 ≤ (x45_2 : Int) := dt
              have q612 : x45_2 < (l0.length : Int) := dt
              obtain ⟨ad612, e612, hx612_0⟩ := Kd.xL HR0.out x45_2 p612 q612
              cases e612
              replace hx612_0 := hcB HB.out hx612_0
              replace p612 := eq_true p612
              replace q612 := eq_true q612
              have p613 : 0 ≤ ((ji28) : Int) := dt
              have q613 : (ji28) < (l0.length : Int) := dt
              obtain ⟨ad613, e613, hx613_0⟩ := Kd.xL HR0.out (ji28) p613 q613
              obtain rfl : ad612 = ad613 := (by injection e613)
              replace hx613_0 := hcB HB.out hx613_0
              replace p613 := eq_true p613
              replace q613 := eq_true q613
              go_wp2
              repeat (go_quiet (fail); try go_wp2)
              go_roundg k2
              case measure => have := HJ2.out; have := HK2.out; omega
              case rel => exact ⟨(wrap64 (x6_2 + 1)), (wrap64 (x45_2 + 1)), rq, rq, H', ⟨by have := HJ2.out; have := HK2.out; omega⟩, ⟨bU BK608.out⟩, ⟨bl⟩⟩
            ·rw [if_neg c30] at H
             exact absurd H (by simp)
           ·rw [if_neg c29] at H
            exact absurd H (by simp)
          ·rw [if_neg c27] at H
           exact absurd H (by simp)
         ·rw [if_neg c26] at H
          exact absurd H (by simp)
        ·have H' := Aside0.mk H
         clear H
         go_wp2
         repeat (go_quiet (fail); try go_wp2)
         go_roundg k2
         case measure => have := HJ2.out; have := HK2.out; omega
         case rel => exact ⟨(x6_2), (wrap64 (x45_2 + 1)), rq, rq, H', ⟨by have := HJ2.out; have := HK2.out; omega⟩, ⟨bU BK608.out⟩, ⟨bl⟩⟩
      ·have H' := Aside0.mk H
       clear H
       go_wp2
       go_loopg [76] k2 (fun kq v76 w' => ∃ (x76_3 : Int) (x609002_3 : List Int) (u609002 : Value), v76 = .int .i64 x76_3 ∧ Aside0 (vp.l1 kq l0 a1 x6_2 a1 x76_3 (l0.length : Int) a1 x609002_3 = some r) ∧ Aside0 (kq ≤ k2) ∧ Aside0 (Kd.R (Kd.int .u8) 5 w' w.heap.size (fun _ => True) u609002 x609002_3) ∧ Aside0 (w'.heap[gb608]? = some (.cells #[.int .i64 (l0.length : Int), .int .i64 a1, u609002] 48 (0, 0))) ∧ Aside0 (Below w.heap.size w w'))
       case atStart => exact ⟨(0), (([] : List Int)), (.slice none 0 0), rq, H', ⟨Nat.le_refl _⟩, ⟨by first | exact Kd.yC _ _ _ _ _ | exact Kd.za _ _ _ _ _ | exact Kd.y9 _ _ _ _ _ | exact Kd.zb _ _ _ _ _ | exact Kd.yZ _ _ _ _ _⟩, ⟨bU BK608.out⟩, ⟨bl⟩⟩
       case round =>
        clear H'
        obtain ⟨x76_3, x609002_3, u609002, rfl, HA, HK3, HO_609002, BK608, HB⟩ := hrel
        cases gk with
        | zero => exact absurd HA.out (by simp [vp.l1])
        | succ k3 =>
         have H := HA.out
         clear HA
         simp only [vp.l1] at H
         rcases iL H with H1 | H1 <;> clear H <;> obtain ⟨H, c32b0⟩ := H1
         ·by_cases c33 : x609002_3.length + l0.length < 140737488355328
          ·rw [if_pos c33] at H
           have LMc33 := Aside0.mk c33
           clear c33
           obtain ⟨y614, hy_⟩ : ∃ y_ : List Int, y_ = (x609002_3 ++ l0) := ⟨_, rfl⟩
           replace H : (vp.l1 k3 l0 a1 x6_2 a1 (wrap64 (x76_3 + 1)) (l0.length : Int) a1 y614) = some r := rh
           have Ny614 := aE hy_
           clear hy_
           have H' := Aside0.mk H
           clear H
           obtain ⟨hcz34_0, hcz34_1, hcz34_2, hfz34_0, hfz34_1, hfz34_2⟩ := zo BK608.out
           go_wp2_with (first | ((with_reducible refine xb (b := .append) (xs := #[.tmp 79, .tmp 80]) rfl ?_); (try (refine yb (by rfl) ?_; dsimp only)); at_builtin; refine Kd.xW (Kd.int .u8) (w0 := w) w.heap.size rfl (.tmp 79) (.tmp 80) 22 5 (.int .u8 0) 1 rfl Tryd.underlying22 info5 rfl (by decide) (by omega) u609002 x609002_3 l0 _ _ _ (fun _ => True) (fun _ => False) rfl rfl ?aO ?aR (fun _ _ h => h) (fun _ h => h.elim) ?aF ?aB ?aS ?aL ?_; (case aR => repeat (first | exact (Kd.wO HR0.out HB.out) | (with_reducible refine Kd.yk ?_ _) | (with_reducible refine Kd.yj ?_ _) | (with_reducible refine Kd.yI ?_))); (case aB => exact bl); (case aF => exact (fun _ _ => trivial)); (case aO => exact (rU HO_609002.out)); (case aS => exact bz); (case aL => have := LMc33.out; omega); intro v615 w35 ho hb hg hat; rw [← Ny614.out] at ho; have n_ := aC (xx (bU BK608.out) hg (Kd.jh HO_609002.out BK608.out (by decide))) (aC hb (aE ho)); clear BK608 HB HO_609002; obtain ⟨BK608, HB, HO616⟩ := n_; clear ho hb hg hat; obtain ⟨Ao36, co36, eo36⟩ := Kd.wq HO616.out; subst eo36; obtain ⟨hcz37_0, hcz37_1, hcz37_2, hfz37_0, hfz37_1, hfz37_2⟩ := zo BK608.out))
           go_roundg k3
           case measure => have := HJ2.out; have := HK2.out; have := HK3.out; omega
           case rel => exact ⟨(wrap64 (x76_3 + 1)), (y614), (.slice Ao36 y614.length co36), rq, H', ⟨by have := HJ2.out; have := HK2.out; have := HK3.out; omega⟩, ⟨rU (Kd.vY (Kd.wI (p := ⟨gb608, 2, none⟩) (Kd.xu HO616.out BK608.out (by decide)) (fun _ hk => hk.2) (.slice Ao36 y614.length co36)) (fun _ hk => trivial))⟩, ⟨by (with_reducible repeat first | apply vl | apply vn | apply vm); refine vv (cs := #[.int .i64 (l0.length : Int), .int .i64 a1, u609002]) ?_ 2 _ rfl; (with_reducible repeat first | apply vl | apply vn | apply vm); exact BK608.out⟩, ⟨bl⟩⟩
          ·rw [if_neg c33] at H
           exact absurd H (by simp)
         ·obtain ⟨⟨t617, t620⟩, A38, H⟩ := oB H
          try dsimp only at H
          rcases iE H with H1 | H1 <;> clear H <;> obtain ⟨H, c39b0, c39b1, c39⟩ := H1
          ·obtain ⟨t621, A40, H⟩ := oB H
           try dsimp only at H
           obtain ⟨⟨t624, t625, t626, t629, t630⟩, A41, H⟩ := oB H
           try dsimp only at H
           obtain ⟨⟨t632, t633⟩, A42, H⟩ := oB H
           try dsimp only at H
           rcases iE H with H1 | H1 <;> clear H <;> obtain ⟨H, c43b0, c43b1, c43⟩ := H1
           ·rcases iE H with H1 | H1 <;> clear H <;> obtain ⟨H, c44b0, c44b1, c44⟩ := H1
            ·rcases iE H with H1 | H1 <;> clear H <;> obtain ⟨H, c45b0, c45b1, c45⟩ := H1
             ·rcases iE H with H1 | H1 <;> clear H <;> obtain ⟨H, c46b0, c46b1, c46⟩ := H1
              ·obtain ⟨t636, A47, H⟩ := oB H
               try dsimp only at H
               obtain rfl := Option.some.inj H
               obtain ⟨hcz48_0, hcz48_1, hcz48_2, hfz48_0, hfz48_1, hfz48_2⟩ := zo BK608.out
               obtain ⟨Ao49, co49, eo49⟩ := Kd.wq HO_609002.out
               subst eo49
               go_wp2_with (first | (go_at_call 25; (with_reducible refine (xd.calls k3 (l0.length : Int) a1 _ _ x609002_3 t617 t620 _ ?side1 ?side2 A38.out).mono ?_); (case side1 => exact cU (Kd.R_reads' HO_609002.out).2.2); (case side2 => exact (Kd.R_reads' HO_609002.out).2.1); rintro e w50 ⟨v618, rfl, ho0, hb⟩; have n_ := aC (Kd.R_elder' (rU HO_609002.out) (Kd.xi ho0) hb) (aC (Kd.vX (Kd.R_new' ho0 (Kd.xX (rU HO_609002.out))) bz) (aC (vu (bU BK608.out) hb) (aE (bs hb)))); clear HO_609002 BK608 HB; obtain ⟨HO_609002, HO619, BK608, HB⟩ := n_) | (go_at_call 29; (with_reducible refine (vt.calls k3 (l0.length : Int) 1 _ _ l0 t621 _ ?side1 ?side2 A40.out).mono ?_); (case side1 => exact cU (Kd.wO HR0.out HB.out)); (case side2 => exact HC0.out); rintro e w51 ⟨v622, rfl, ho0, hb⟩; have n_ := aC (Kd.R_elder' (rU HO_609002.out) (Kd.xi ho0) hb) (aC (Kd.R_elder' (rU HO619.out) (Kd.xi ho0) hb) (aC (Kd.vX (Kd.R_new' (Kd.R_new' ho0 (Kd.xX (rU HO_609002.out))) (Kd.xX (rU HO619.out))) bz) (aC (vu (bU BK608.out) hb) (aE (bs hb))))); clear HO_609002 HO619 BK608 HB; obtain ⟨HO_609002, HO619, HO623, BK608, HB⟩ := n_; obtain ⟨Ao52, co52, eo52⟩ := Kd.wq HO623.out; subst eo52; obtain ⟨hcz53_0, hcz53_1, hcz53_2, hfz53_0, hfz53_1, hfz53_2⟩ := zo BK608.out; obtain ⟨Ao54, co54, eo54⟩ := Kd.wq HO619.out; subst eo54) | (go_at_call 33; (with_reducible refine (yg.calls k3 _ _ t617 (l0.length : Int) a1 t624 t625 t626 t629 t630 _ ?side1 ?side2 A41.out).mono ?_); (case side1 => exact cU (Kd.R_reads' HO619.out).2.2); (case side2 => exact (Kd.R_reads' HO619.out).2.1); rintro e w55 ⟨v627, rfl, ho0, hb⟩; have n_ := aC (Kd.R_elder' (rU HO_609002.out) (Kd.xi ho0) hb) (aC (Kd.R_elder' (rU HO619.out) (Kd.xi ho0) hb) (aC (Kd.R_elder' (rU HO623.out) (Kd.xi ho0) hb) (aC (Kd.vX (Kd.R_new' (Kd.R_new' (Kd.R_new' ho0 (Kd.xX (rU HO_609002.out))) (Kd.xX (rU HO619.out))) (Kd.xX (rU HO623.out))) bz) (aC (vu (bU BK608.out) hb) (aE (bs hb)))))); clear HO_609002 HO619 HO623 BK608 HB; obtain ⟨HO_609002, HO619, HO623, HO628, BK608, HB⟩ := n_) | ((with_reducible refine gd 11 rfl ?_); (try (refine yb (by rfl) ?_; dsimp only)); refine bx 11 #[.int .i64 0, .int .i64 0, .slice none 0 0] 48 rfl rfl ?_; intro gb631 hg w56 hbox hb; have n_ := aC (Kd.vT (rU HO_609002.out) hb) (aC (Kd.vT (rU HO619.out) hb) (aC (Kd.vT (rU HO623.out) hb) (aC (Kd.vT (rU HO628.out) hb) (aC (vu (bU BK608.out) hb) (aC (bs hb) (aC hbox (aC (gz hg) (aC (gz hg) (aC (gn hg (bU BK608.out)) (aE (gm hg (bU BK608.out)))))))))))); clear HO_609002 HO619 HO623 HO628 BK608 HB; obtain ⟨HO_609002, HO619, HO623, HO628, BK608, HB, BK631, GW631, GE631, NB608_631, NB631_608⟩ := n_; clear hb hbox hg; have hnb57 := NB631_608.out; have hnc57 := NB608_631.out; obtain ⟨hcz58_0, hcz58_1, hcz58_2, hfz58_0, hfz58_1, hfz58_2⟩ := zo BK631.out; obtain ⟨Ao59, co59, eo59⟩ := Kd.wq HO628.out; subst eo59) | (go_at_call 16; (with_reducible refine (wt.calls k3 _ _ l0 _ _ l0 t632 t633 _ (TIs.on HTI) ?side1 ?side2 ?side3 ?side4 A42.out).mono ?_); (case side1 => exact Kd.wO HR0.out bl); (case side2 => exact HC0.out); (case side3 => exact Kd.wO HR0.out bl); (case side4 => exact HC0.out); rintro e w60 ⟨v634, rfl, ho0, hb⟩; have n_ := aC (Kd.vT (rU (Kd.vY (Kd.wI (p := ⟨gb631, 2, none⟩) (Kd.wI (p := ⟨gb631, 1, none⟩) (Kd.wI (p := ⟨gb631, 0, none⟩) (Kd.xu HO_609002.out BK631.out (by decide)) (fun _ hk => hk.2) (.int .i64 t624)) (fun _ hk => hk.2) (.int .i64 t625)) (fun _ hk => hk.2) (.slice Ao59 t626.length co59)) (fun _ h_ => h_.1))) hb) (aC (Kd.vT (rU (Kd.vY (Kd.wI (p := ⟨gb631, 2, none⟩) (Kd.wI (p := ⟨gb631, 1, none⟩) (Kd.wI (p := ⟨gb631, 0, none⟩) (Kd.xu HO619.out BK631.out (by decide)) (fun _ hk => hk.2) (.int .i64 t624)) (fun _ hk => hk.2) (.int .i64 t625)) (fun _ hk => hk.2) (.slice Ao59 t626.length co59)) (fun _ h_ => h_.1))) hb) (aC (Kd.vT (rU (Kd.vY (Kd.wI (p := ⟨gb631, 2, none⟩) (Kd.wI (p := ⟨gb631, 1, none⟩) (Kd.wI (p := ⟨gb631, 0, none⟩) (Kd.xu HO623.out BK631.out (by decide)) (fun _ hk => hk.2) (.int .i64 t624)) (fun _ hk => hk.2) (.int .i64 t625)) (fun _ hk => hk.2) (.slice Ao59 t626.length co59)) (fun _ h_ => h_.1))) hb) (aC (Kd.vT (rU (Kd.vY (Kd.wI (p := ⟨gb631, 2, none⟩) (Kd.wI (p := ⟨gb631, 1, none⟩) (Kd.wI (p := ⟨gb631, 0, none⟩) (Kd.xu HO628.out BK631.out (by decide)) (fun _ hk => hk.2) (.int .i64 t624)) (fun _ hk => hk.2) (.int .i64 t625)) (fun _ hk => hk.2) (.slice Ao59 t626.length co59)) (fun _ h_ => h_.1))) hb) (aC (Kd.vX ho0 bz) (aC (vu (g := gb608) (o := .cells #[.int .i64 (l0.length : Int), .int .i64 a1, .slice Ao49 x609002_3.length co49] 48 (0, 0)) (by (with_reducible repeat first | apply vl | apply vn | apply vm); refine vV ?_ NB608_631.out _; (with_reducible repeat first | apply vl | apply vn | apply vm); refine vV ?_ NB608_631.out _; (with_reducible repeat first | apply vl | apply vn | apply vm); refine vV ?_ NB608_631.out _; (with_reducible repeat first | apply vl | apply vn | apply vm); exact BK608.out) hb) (aC (vu (g := gb631) (o := .cells #[.int .i64 t624, .int .i64 t625, .slice Ao59 t626.length co59] 48 (0, 0)) (by (with_reducible repeat first | apply vl | apply vn | apply vm); refine vv (cs := #[.int .i64 t624, .int .i64 t625, .slice none 0 0]) ?_ 2 _ rfl; (with_reducible repeat first | apply vl | apply vn | apply vm); refine vv (cs := #[.int .i64 t624, .int .i64 0, .slice none 0 0]) ?_ 1 _ rfl; (with_reducible repeat first | apply vl | apply vn | apply vm); refine vv (cs := #[.int .i64 0, .int .i64 0, .slice none 0 0]) ?_ 0 _ rfl; (with_reducible repeat first | apply vl | apply vn | apply vm); exact BK631.out) hb) (aE (bs hb)))))))); clear HO_609002 HO619 HO623 HO628 BK608 BK631 HB; obtain ⟨HO_609002, HO619, HO623, HO628, HO635, BK608, BK631, HB⟩ := n_; obtain ⟨Ao61, co61, eo61⟩ := Kd.wq HO635.out; subst eo61) | (go_at_call 13; (with_reducible refine (vI.calls k3  t636 _ (TIs.on HTI) A47.out).mono ?_); rintro e w62 ⟨rfl, hb⟩; have n_ := aC (Kd.vT (rU HO_609002.out) hb) (aC (Kd.vT (rU HO619.out) hb) (aC (Kd.vT (rU HO623.out) hb) (aC (Kd.vT (rU HO628.out) hb) (aC (Kd.vT (rU HO635.out) hb) (aC (vu (bU BK608.out) hb) (aC (vu (bU BK631.out) hb) (aE (bs hb)))))))); clear HO_609002 HO619 HO623 HO628 HO635 BK608 BK631 HB; obtain ⟨HO_609002, HO619, HO623, HO628, HO635, BK608, BK631, HB⟩ := n_))
               go_ret
               exact ⟨re, bl⟩
              ·exact absurd ((Option.some.inj H).trans HR_.out) (by decide)
             ·exact absurd ((Option.some.inj H).trans HR_.out) (by decide)
            ·exact absurd ((Option.some.inj H).trans HR_.out) (by decide)
           ·exact absurd ((Option.some.inj H).trans HR_.out) (by decide)
          ·exact absurd ((Option.some.inj H).trans HR_.out) (by decide)
def vp.Pure : Prop := ∀ (l0 : List Int) (a1 : Int), (l0.length ≤ 9223372036854775807 ∧ l0.length * 1 ≤ 140737488351232 ∧ ∀ y0_ ∈ l0, (Lit.int .u8 y0_).wf = true) → ((Lit.int .i64 a1).wf = true) → ∃ k, vp.f k l0 a1 = some true
theorem vp.walk (P : vp.Pure) (A0 : Option Addr) (c0 : Nat) (l0 : List Int) (a1 : Int) (w : World) (hT0 : TIs w) (hr0 : Kd.C (Kd.int .u8) w A0 l0.length l0) (hc0 : l0.length ≤ c0) (g0 : l0.length ≤ 9223372036854775807 ∧ l0.length * 1 ≤ 140737488351232 ∧ ∀ y0_ ∈ l0, (Lit.int .u8 y0_).wf = true) (g1 : (Lit.int .i64 a1).wf = true) :
  Calls Tryd.prog 11 #[.slice A0 l0.length c0, .int .i64 a1] w fun e w' => e = .returned (.bool true) ∧ Below w.heap.size w w' := by
 obtain ⟨k, h⟩ := P l0 a1 g0 g1
 refine (vp.calls k A0 c0 l0 a1 true w hT0 hr0 hc0 h rfl).mono ?_
 rintro e w' ⟨rfl, hd⟩
 exact ⟨rfl, hd⟩
end Go.Proofs.YtknclbodinfbeaaDoor.PRunsSame
