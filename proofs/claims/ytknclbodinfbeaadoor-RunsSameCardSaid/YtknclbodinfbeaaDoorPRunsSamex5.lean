-- printed (wip/tools/myprint.py)
import Derived.Test.YtknclbodinfbeaaDoorPRunsSamex0
import Derived.Test.YtknclbodinfbeaaDoorPRunsSamex4
namespace Go.Proofs.YtknclbodinfbeaaDoor.PRunsSame
open Go.RowKit Go.Proofs.YtknclbodinfbeaaDoorW.PrintWords Go.Proofs.YtknclbodinfbeaaDoorW.PrintLast Go.Proofs.YtknclbodinfbeaaDoorW.PrintMore
attribute [local go_sem] yf yc yD yE xV xU ye yh
set_option linter.unusedVariables false
set_option linter.unusedSimpArgs false
def ww.l0 : Nat → List Int → Int → Int → Option (Int × Int)
 | 0, _, _, _ => none
 | k + 1, x0, x2, x6 => if x6 < (x0.length : Int) then (if x6 > 0 then (if 0 ≤ (wrap64 (x6 - 1)) then (if (wrap64 (x6 - 1)) < (x0.length : Int) then (if 0 ≤ x6 then (if (rd x0 x6) = x2 then (ww.l0 k x0 x2 (wrap64 (x6 + 1))) else (if (rd x0 (wrap64 (x6 - 1))) = x2 then ((vQ.f k x0 (mn x6 (x0.length : Int)) x2).bind fun t217 => (some (mn x6 (x0.length : Int), t217))) else (ww.l0 k x0 x2 (wrap64 (x6 + 1))))) else (none)) else (none)) else (none)) else (if 0 ≤ x6 then (if (rd x0 x6) = x2 then (ww.l0 k x0 x2 (wrap64 (x6 + 1))) else (if 0 = x2 then ((vQ.f k x0 (mn x6 (x0.length : Int)) x2).bind fun t219 => (some (mn x6 (x0.length : Int), t219))) else (ww.l0 k x0 x2 (wrap64 (x6 + 1))))) else (none))) else ((vQ.f k x0 (mn x6 (x0.length : Int)) x2).bind fun t214 => (some (mn x6 (x0.length : Int), t214)))
def ww.f (k : Nat) (l0 : List Int) (a1 : Int) (a2 : Int) : Option (Int × Int) := ww.l0 k l0 a2 (wrap64 (a1 + 1))
theorem ww.wj : ∀ k, (∀ y0 y1 y2, vP (ww.l0 k y0 y1 y2) (ww.l0 (k + 1) y0 y1 y2))
 | 0 => fun _ _ _ r h => by simp [ww.l0] at h
 | k + 1 => by
  have ih0 := ww.wj k
  ·intro y0 y1 y2
   unfold ww.l0
   repeat' first
   | (with_reducible exact ih0 _ _ _)
   | (with_reducible exact vQ.mono _ _ _ _)
   | (with_reducible first | exact vP.refl _ | exact vP.none _ | apply vP.ite | refine vP.bind ?_ fun _ => ?_)
theorem ww.mono : ∀ a0 a1 a2 k, vP (ww.f k a0 a1 a2) (ww.f (k + 1) a0 a1 a2) := by
 intro a0 a1 a2 k
 have ih0 := ww.wj k
 unfold ww.f
 repeat' first
   | (with_reducible exact ih0 _ _ _)
   | (with_reducible exact vQ.mono _ _ _ _)
   | (with_reducible first | exact vP.refl _ | exact vP.none _ | apply vP.ite | refine vP.bind ?_ fun _ => ?_)
set_option maxHeartbeats 8000000 in
set_option maxRecDepth 100000 in
theorem ww.calls (k : Nat) (A0 : Option Addr) (c0 : Nat) (l0 : List Int) (a1 : Int) (a2 : Int) (r1 : Int) (r2 : Int) (w : World) (hr0 : Kd.C (Kd.int .u8) w A0 l0.length l0) (hc0 : l0.length ≤ c0) (h : ww.f k l0 a1 a2 = some (r1, r2)) :
  Calls Tryd.prog 66 #[.slice A0 l0.length c0, .int .i64 a1, .int .u8 a2] w fun e w' => e = .returned (.tuple #[.int .i64 r1, .int .i64 r2]) ∧ Below w.heap.size w w' := by
 have HR0 := Aside0.mk hr0
 have HC0 := Aside0.mk hc0
 clear hr0 hc0
 have HB := Aside0.mk (Below.refl w.heap.size w)
 have H : (ww.l0 k l0 a2 (wrap64 (a1 + 1))) = some (r1, r2) := h
 clear h
 have H' := Aside0.mk H
 clear H
 go_enter Tryd.func66, Tryd.ntmps66
 go_wp2
 go_loopg [6] k (fun kq v6 w' => ∃ (x6_1 : Int), v6 = .int .i64 x6_1 ∧ Aside0 (ww.l0 kq l0 a2 x6_1 = some (r1, r2)) ∧ Aside0 (kq ≤ k) ∧ Aside0 (Below w.heap.size w w'))
 case atStart => exact ⟨(wrap64 (a1 + 1)), rq, H', ⟨Nat.le_refl _⟩, ⟨bl⟩⟩
 case round =>
  clear H'
  obtain ⟨x6_1, rfl, HA, HK1, HB⟩ := hrel
  cases gk with
  | zero => exact absurd HA.out (by simp [ww.l0])
  | succ k1 =>
   have H := HA.out
   clear HA
   simp only [ww.l0] at H
   rcases iL H with H1 | H1 <;> clear H <;> obtain ⟨H, c4b0⟩ := H1
   ·rcases iL H with H1 | H1 <;> clear H <;> obtain ⟨H, c5b0⟩ := H1
    ·obtain ⟨ji6, hji6⟩ : ∃ j_ : Int, (wrap64 (x6_1 - 1)) = j_ := ⟨_, rfl⟩
     replace H : (if 0 ≤ (ji6) then (if (ji6) < (l0.length : Int) then (if 0 ≤ x6_1 then (if (rd l0 x6_1) = a2 then (ww.l0 k1 l0 a2 (wrap64 (x6_1 + 1))) else (if (rd l0 (ji6)) = a2 then ((vQ.f k1 l0 (mn x6_1 (l0.length : Int)) a2).bind fun t217 => (some (mn x6_1 (l0.length : Int), t217))) else (ww.l0 k1 l0 a2 (wrap64 (x6_1 + 1))))) else (none)) else (none)) else (none)) = some (r1, r2) := by first | (rw [hji6] at H; exact H) | (simp only [hji6] at H ⊢; exact H)
     have hji6w : (IntKind.i64.wrap (x6_1 - 1)) = ji6 := (xD _).trans hji6
     by_cases c7 : 0 ≤ (ji6)
     ·rw [if_pos c7] at H
      have c7b0 := decide_eq_true c7
      clear c7
      by_cases c8 : (ji6) < (l0.length : Int)
      ·rw [if_pos c8] at H
       have c8b0 := decide_eq_true c8
       clear c8
       by_cases c9 : 0 ≤ x6_1
       ·rw [if_pos c9] at H
        have c9b0 := decide_eq_true c9
        clear c9
        rcases iE H with H1 | H1 <;> clear H <;> obtain ⟨H, c10b0, c10b1, c10⟩ := H1
        ·have H' := Aside0.mk H
         clear H
         have p215 : 0 ≤ ((ji6) : Int) := dt
         have q215 : (ji6) < (l0.length : Int) := dt
         obtain ⟨ad215, e215, hx215_0⟩ := Kd.xL HR0.out (ji6) p215 q215
         cases e215
         replace hx215_0 := hcB HB.out hx215_0
         replace p215 := eq_true p215
         replace q215 := eq_true q215
         have p216 : 0 ≤ (x6_1 : Int) := dt
         have q216 : x6_1 < (l0.length : Int) := dt
         obtain ⟨ad216, e216, hx216_0⟩ := Kd.xL HR0.out x6_1 p216 q216
         obtain rfl : ad215 = ad216 := (by injection e216)
         replace hx216_0 := hcB HB.out hx216_0
         replace p216 := eq_true p216
         replace q216 := eq_true q216
         go_wp2
         go_roundg k1
         case measure => have := HK1.out; omega
         case rel => exact ⟨(wrap64 (x6_1 + 1)), rq, H', ⟨by have := HK1.out; omega⟩, ⟨bl⟩⟩
        ·rcases iE H with H1 | H1 <;> clear H <;> obtain ⟨H, c11b0, c11b1, c11⟩ := H1
         ·obtain ⟨ji12, hji12⟩ : ∃ j_ : Int, (mn x6_1 (l0.length : Int)) = j_ := ⟨_, rfl⟩
          replace H : ((vQ.f k1 l0 (ji12) a2).bind fun t217 => (some (ji12, t217))) = some (r1, r2) := by first | (rw [hji12] at H; exact H) | (simp only [hji12] at H ⊢; exact H)
          have hji12_ : (if (l0.length : Int) < x6_1 then (l0.length : Int) else x6_1) = ji12 := hji12
          obtain ⟨t217, A13, H⟩ := oB H
          try dsimp only at H
          simp only [Option.some.injEq, Prod.mk.injEq] at H
          obtain ⟨rfl, rfl⟩ := H
          have p215 : 0 ≤ ((ji6) : Int) := dt
          have q215 : (ji6) < (l0.length : Int) := dt
          obtain ⟨ad215, e215, hx215_0⟩ := Kd.xL HR0.out (ji6) p215 q215
          cases e215
          replace hx215_0 := hcB HB.out hx215_0
          replace p215 := eq_true p215
          replace q215 := eq_true q215
          have p216 : 0 ≤ (x6_1 : Int) := dt
          have q216 : x6_1 < (l0.length : Int) := dt
          obtain ⟨ad216, e216, hx216_0⟩ := Kd.xL HR0.out x6_1 p216 q216
          obtain rfl : ad215 = ad216 := (by injection e216)
          replace hx216_0 := hcB HB.out hx216_0
          replace p216 := eq_true p216
          replace q216 := eq_true q216
          go_wp2_with (first | ((with_reducible refine gf 67 rfl ?_); refine qy (some 43) rfl rfl Tryd.func67 (by kernel_rfl) rfl #[.slice (some ad215) l0.length c0, .int .i64 ji12, .int .u8 a2] rfl (by (try simp only [List.map_toArray, List.map_cons, List.map_nil]); first | done | (simp only [hji12]; rfl) | rfl | (simp only [List.length_drop, List.length_take]; rfl)) ?_; (with_reducible refine (vQ.calls k1 _ _ l0 ji12 a2 t217 _ ?side1 ?side2 A13.out).mono ?_); (case side1 => exact cU (Kd.wO HR0.out HB.out)); (case side2 => exact HC0.out); rintro e w14 ⟨rfl, hb⟩; refine ⟨_, rfl, ?_⟩; have n_ := aE (bs hb); clear HB; have HB := n_; clear n_))
          go_ret2
          exact ⟨by first | rfl | (simp [wL, wK] <;> rfl) | (simp only [← hji6, ← hji12]; first | rfl | (simp [wL, wK] <;> rfl)) | (simp [*, wL, wK] <;> rfl), bl⟩
         ·have H' := Aside0.mk H
          clear H
          have p215 : 0 ≤ ((ji6) : Int) := dt
          have q215 : (ji6) < (l0.length : Int) := dt
          obtain ⟨ad215, e215, hx215_0⟩ := Kd.xL HR0.out (ji6) p215 q215
          cases e215
          replace hx215_0 := hcB HB.out hx215_0
          replace p215 := eq_true p215
          replace q215 := eq_true q215
          have p216 : 0 ≤ (x6_1 : Int) := dt
          have q216 : x6_1 < (l0.length : Int) := dt
          obtain ⟨ad216, e216, hx216_0⟩ := Kd.xL HR0.out x6_1 p216 q216
          obtain rfl : ad215 = ad216 := (by injection e216)
          replace hx216_0 := hcB HB.out hx216_0
          replace p216 := eq_true p216
          replace q216 := eq_true q216
          go_wp2
          go_roundg k1
          case measure => have := HK1.out; omega
          case rel => exact ⟨(wrap64 (x6_1 + 1)), rq, H', ⟨by have := HK1.out; omega⟩, ⟨bl⟩⟩
       ·rw [if_neg c9] at H
        exact absurd H (by simp)
      ·rw [if_neg c8] at H
       exact absurd H (by simp)
     ·rw [if_neg c7] at H
      exact absurd H (by simp)
    ·by_cases c15 : 0 ≤ x6_1
     ·rw [if_pos c15] at H
      have c15b0 := decide_eq_true c15
      clear c15
      rcases iE H with H1 | H1 <;> clear H <;> obtain ⟨H, c16b0, c16b1, c16⟩ := H1
      ·have H' := Aside0.mk H
       clear H
       have p218 : 0 ≤ (x6_1 : Int) := dt
       have q218 : x6_1 < (l0.length : Int) := dt
       obtain ⟨ad218, e218, hx218_0⟩ := Kd.xL HR0.out x6_1 p218 q218
       cases e218
       replace hx218_0 := hcB HB.out hx218_0
       replace p218 := eq_true p218
       replace q218 := eq_true q218
       go_wp2
       go_roundg k1
       case measure => have := HK1.out; omega
       case rel => exact ⟨(wrap64 (x6_1 + 1)), rq, H', ⟨by have := HK1.out; omega⟩, ⟨bl⟩⟩
      ·rcases iE H with H1 | H1 <;> clear H <;> obtain ⟨H, c17b0, c17b1, c17⟩ := H1
       ·obtain ⟨ji18, hji18⟩ : ∃ j_ : Int, (mn x6_1 (l0.length : Int)) = j_ := ⟨_, rfl⟩
        replace H : ((vQ.f k1 l0 (ji18) a2).bind fun t219 => (some (ji18, t219))) = some (r1, r2) := by first | (rw [hji18] at H; exact H) | (simp only [hji18] at H ⊢; exact H)
        have hji18_ : (if (l0.length : Int) < x6_1 then (l0.length : Int) else x6_1) = ji18 := hji18
        obtain ⟨t219, A19, H⟩ := oB H
        try dsimp only at H
        simp only [Option.some.injEq, Prod.mk.injEq] at H
        obtain ⟨rfl, rfl⟩ := H
        have p218 : 0 ≤ (x6_1 : Int) := dt
        have q218 : x6_1 < (l0.length : Int) := dt
        obtain ⟨ad218, e218, hx218_0⟩ := Kd.xL HR0.out x6_1 p218 q218
        cases e218
        replace hx218_0 := hcB HB.out hx218_0
        replace p218 := eq_true p218
        replace q218 := eq_true q218
        go_wp2_with (first | ((with_reducible refine gf 67 rfl ?_); refine qy (some 43) rfl rfl Tryd.func67 (by kernel_rfl) rfl #[.slice (some ad218) l0.length c0, .int .i64 ji18, .int .u8 a2] rfl (by (try simp only [List.map_toArray, List.map_cons, List.map_nil]); first | done | (simp only [hji18]; rfl) | rfl | (simp only [List.length_drop, List.length_take]; rfl)) ?_; (with_reducible refine (vQ.calls k1 _ _ l0 ji18 a2 t219 _ ?side1 ?side2 A19.out).mono ?_); (case side1 => exact cU (Kd.wO HR0.out HB.out)); (case side2 => exact HC0.out); rintro e w20 ⟨rfl, hb⟩; refine ⟨_, rfl, ?_⟩; have n_ := aE (bs hb); clear HB; have HB := n_; clear n_))
        go_ret2
        exact ⟨by first | rfl | (simp [wL, wK] <;> rfl) | (simp only [← hji18]; first | rfl | (simp [wL, wK] <;> rfl)) | (simp [*, wL, wK] <;> rfl), bl⟩
       ·have H' := Aside0.mk H
        clear H
        have p218 : 0 ≤ (x6_1 : Int) := dt
        have q218 : x6_1 < (l0.length : Int) := dt
        obtain ⟨ad218, e218, hx218_0⟩ := Kd.xL HR0.out x6_1 p218 q218
        cases e218
        replace hx218_0 := hcB HB.out hx218_0
        replace p218 := eq_true p218
        replace q218 := eq_true q218
        go_wp2
        go_roundg k1
        case measure => have := HK1.out; omega
        case rel => exact ⟨(wrap64 (x6_1 + 1)), rq, H', ⟨by have := HK1.out; omega⟩, ⟨bl⟩⟩
     ·rw [if_neg c15] at H
      exact absurd H (by simp)
   ·obtain ⟨ji21, hji21⟩ : ∃ j_ : Int, (mn x6_1 (l0.length : Int)) = j_ := ⟨_, rfl⟩
    replace H : ((vQ.f k1 l0 (ji21) a2).bind fun t214 => (some (ji21, t214))) = some (r1, r2) := by first | (rw [hji21] at H; exact H) | (simp only [hji21] at H ⊢; exact H)
    have hji21_ : (if (l0.length : Int) < x6_1 then (l0.length : Int) else x6_1) = ji21 := hji21
    obtain ⟨t214, A22, H⟩ := oB H
    try dsimp only at H
    simp only [Option.some.injEq, Prod.mk.injEq] at H
    obtain ⟨rfl, rfl⟩ := H
    go_wp2_with (first | ((with_reducible refine gf 67 rfl ?_); refine qy (some 43) rfl rfl Tryd.func67 (by kernel_rfl) rfl #[.slice A0 l0.length c0, .int .i64 ji21, .int .u8 a2] rfl (by (try simp only [List.map_toArray, List.map_cons, List.map_nil]); first | done | (simp only [hji21]; rfl) | rfl | (simp only [List.length_drop, List.length_take]; rfl)) ?_; (with_reducible refine (vQ.calls k1 _ _ l0 ji21 a2 t214 _ ?side1 ?side2 A22.out).mono ?_); (case side1 => exact cU (Kd.wO HR0.out HB.out)); (case side2 => exact HC0.out); rintro e w23 ⟨rfl, hb⟩; refine ⟨_, rfl, ?_⟩; have n_ := aE (bs hb); clear HB; have HB := n_; clear n_))
    go_ret2
    exact ⟨by first | rfl | (simp [wL, wK] <;> rfl) | (simp only [← hji21]; first | rfl | (simp [wL, wK] <;> rfl)) | (simp [*, wL, wK] <;> rfl), bl⟩
mutual
def vB.l0 : Nat → List Int → List Int → List (yP) → Int → Int → Int → Option ((List (yP)))
 | 0, _, _, _, _, _, _ => none
 | k + 1, x0, x1, x5, x6, x7, x8 => if x6 < x8 then (vB.j1 k x0 x1 x5 x6 x7 x8 (decide (x8 > 0))) else (vB.j1 k x0 x1 x5 x6 x7 x8 false)
def vB.j1 : Nat → List Int → List Int → List (yP) → Int → Int → Int → Bool → Option ((List (yP)))
 | 0, _, _, _, _, _, _, _ => none
 | k + 1, x0, x1, x5, x6, x7, x8, x21 => if x21 = true then ((ww.f k x0 x6 x7).bind fun bt220 => ((vQ.f k x1 x6 ((1 - x7) % 256)).bind fun t222 => (if bt220.2 < t222 then (if x5.length < 2932031007402 then (vB.l0 k x0 x1 (x5 ++ [(⟨(⟨#[112, 97, 115, 115]⟩ : ByteArray), 0, (⟨0, 0⟩ : jg), 0⟩ : yP)]) bt220.2 x7 x8) else (none)) else (if (wrap64 (t222 - bt220.1)) ≥ (-3) then (if (wrap64 (t222 - bt220.1)) ≤ 3 then (if x5.length < 2932031007402 then (vB.l0 k x0 x1 (x5 ++ [(⟨(⟨#[117, 112]⟩ : ByteArray), wrap64 (t222 - bt220.1), (⟨0, 0⟩ : jg), 0⟩ : yP)]) t222 ((1 - x7) % 256) x8) else (none)) else ((vQ.f k x1 t222 x7).bind fun t229 => (if x5.length < 2932031007402 then (vB.l0 k x0 x1 (x5 ++ [(⟨(⟨#[102, 108, 97, 116]⟩ : ByteArray), 0, (⟨wrap64 (t222 - (mx x6 0)), wrap64 (t229 - t222)⟩ : jg), wrap64 (x7)⟩ : yP)]) t229 x7 x8) else (none)))) else ((vQ.f k x1 t222 x7).bind fun t233 => (if x5.length < 2932031007402 then (vB.l0 k x0 x1 (x5 ++ [(⟨(⟨#[102, 108, 97, 116]⟩ : ByteArray), 0, (⟨wrap64 (t222 - (mx x6 0)), wrap64 (t233 - t222)⟩ : jg), wrap64 (x7)⟩ : yP)]) t233 x7 x8) else (none))))))) else (some x5)
end
def vB.f (k : Nat) (l0 : List Int) (l1 : List Int) : Option ((List (yP))) := vB.l0 k l0 l1 ([] : List (yP)) (-1) 0 (l1.length : Int)
theorem vB.wj : ∀ k, (∀ y0 y1 y2 y3 y4 y5, vP (vB.l0 k y0 y1 y2 y3 y4 y5) (vB.l0 (k + 1) y0 y1 y2 y3 y4 y5)) ∧ (∀ y0 y1 y2 y3 y4 y5 y6, vP (vB.j1 k y0 y1 y2 y3 y4 y5 y6) (vB.j1 (k + 1) y0 y1 y2 y3 y4 y5 y6))
 | 0 => ⟨fun _ _ _ _ _ _ r h => by simp [vB.l0] at h, fun _ _ _ _ _ _ _ r h => by simp [vB.j1] at h⟩
 | k + 1 => by
  obtain ⟨ih0, ih1⟩ := vB.wj k
  refine ⟨?_, ?_⟩
  ·intro y0 y1 y2 y3 y4 y5
   unfold vB.l0
   repeat' first
   | (with_reducible exact ih0 _ _ _ _ _ _)
   | (with_reducible exact ih1 _ _ _ _ _ _ _)
   | (with_reducible exact vQ.mono _ _ _ _)
   | (with_reducible exact ww.mono _ _ _ _)
   | (with_reducible first | exact vP.refl _ | exact vP.none _ | apply vP.ite | refine vP.bind ?_ fun _ => ?_)
  ·intro y0 y1 y2 y3 y4 y5 y6
   unfold vB.j1
   repeat' first
   | (with_reducible exact ih0 _ _ _ _ _ _)
   | (with_reducible exact ih1 _ _ _ _ _ _ _)
   | (with_reducible exact vQ.mono _ _ _ _)
   | (with_reducible exact ww.mono _ _ _ _)
   | (with_reducible first | exact vP.refl _ | exact vP.none _ | apply vP.ite | refine vP.bind ?_ fun _ => ?_)
theorem vB.mono : ∀ a0 a1 k, vP (vB.f k a0 a1) (vB.f (k + 1) a0 a1) := by
 intro a0 a1 k
 obtain ⟨ih0, ih1⟩ := vB.wj k
 unfold vB.f
 repeat' first
   | (with_reducible exact ih0 _ _ _ _ _ _)
   | (with_reducible exact ih1 _ _ _ _ _ _ _)
   | (with_reducible exact vQ.mono _ _ _ _)
   | (with_reducible exact ww.mono _ _ _ _)
   | (with_reducible first | exact vP.refl _ | exact vP.none _ | apply vP.ite | refine vP.bind ?_ fun _ => ?_)
set_option maxHeartbeats 8000000 in
set_option maxRecDepth 100000 in
theorem vB.calls (k : Nat) (A0 : Option Addr) (c0 : Nat) (l0 : List Int) (A1 : Option Addr) (c1 : Nat) (l1 : List Int) (r : List (yP)) (w : World) (hr0 : Kd.C (Kd.int .u8) w A0 l0.length l0) (hc0 : l0.length ≤ c0) (hr1 : Kd.C (Kd.int .u8) w A1 l1.length l1) (hc1 : l1.length ≤ c1) (h : vB.f k l0 l1 = some r) :
  Calls Tryd.prog 41 #[.slice A0 l0.length c0, .slice A1 l1.length c1] w fun e w' => ∃ v0_ : Value, e = .returned (v0_) ∧ Kd.R k69 69 w' w.heap.size (fun _ => True) v0_ r ∧ Below w.heap.size w w' := by
 have hu69 := Tryd.underlying69
 have hu67 := Tryd.underlying67
 have HR0 := Aside0.mk hr0
 have HC0 := Aside0.mk hc0
 clear hr0 hc0
 have HR1 := Aside0.mk hr1
 have HC1 := Aside0.mk hc1
 clear hr1 hc1
 have HB := Aside0.mk (Below.refl w.heap.size w)
 have H : (vB.l0 k l0 l1 ([] : List (yP)) (-1) 0 (l1.length : Int)) = some r := h
 clear h
 have H' := Aside0.mk H
 clear H
 go_enter Tryd.func41, Tryd.ntmps41
 go_wp2
 go_loopg [5, 6, 7] k (fun kq v5 v6 v7 w' => ∃ (x5_1 : List (yP)) (x6_1 : Int) (x7_1 : Int), v6 = .int .i64 x6_1 ∧ v7 = .int .u8 x7_1 ∧ Aside0 (vB.l0 kq l0 l1 x5_1 x6_1 x7_1 (l1.length : Int) = some r) ∧ Aside0 (kq ≤ k) ∧ Aside0 (Kd.R k69 69 w' w.heap.size (fun _ => True) v5 x5_1) ∧ Aside0 (Below w.heap.size w w'))
 case atStart => exact ⟨(([] : List (yP))), ((-1)), (0), rq, rq, H', ⟨Nat.le_refl _⟩, ⟨by first | exact Kd.yC _ _ _ _ _ | exact Kd.za _ _ _ _ _ | exact Kd.y9 _ _ _ _ _ | exact Kd.zb _ _ _ _ _ | exact Kd.yZ _ _ _ _ _⟩, ⟨bl⟩⟩
 case round =>
  clear H'
  try clear c1
  obtain ⟨x5_1, x6_1, x7_1, rfl, rfl, HA, HK1, HO_5, HB⟩ := hrel
  cases gk with
  | zero => exact absurd HA.out (by simp [vB.l0])
  | succ k1 =>
   have H := HA.out
   clear HA
   simp only [vB.l0] at H
   have HC3 := Aside0.mk H
   clear H
   go_upto_region 4 with (fail)
   go_cut [21] (fun v21 wc => ∃ (kq : Nat) (x21_2 : Bool), v21 = .bool x21_2 ∧ Aside0 (vB.j1 kq l0 l1 x5_1 x6_1 x7_1 (l1.length : Int) x21_2 = some r) ∧ Aside0 (kq ≤ k1) ∧ Aside0 (Kd.R k69 69 wc w.heap.size (fun _ => True) u5 x5_1) ∧ Aside0 (Below w.heap.size w wc))
   case first =>
    have H := HC3.out
    clear HC3
    rcases iL H with H1 | H1 <;> clear H <;> obtain ⟨H, c4b0⟩ := H1
    ·(first | rw [c4b0] | (simp only [xD, zm]; rw [c4b0]) | skip)
     have H' := Aside0.mk H
     clear H
     go_wp2
     go_meet
     case rel => exact ⟨_, (decide ((l1.length : Int) > 0)), rq, H', ⟨by have := HK1.out; first | omega | exact Nat.le_refl _⟩, ⟨rU HO_5.out⟩, ⟨bl⟩⟩
    ·(first | rw [c4b0] | (simp only [xD, zm]; rw [c4b0]) | skip)
     have H' := Aside0.mk H
     clear H
     go_wp2
     go_meet
     case rel => exact ⟨_, (false), rq, H', ⟨by have := HK1.out; first | omega | exact Nat.le_refl _⟩, ⟨rU HO_5.out⟩, ⟨bl⟩⟩
   case rest =>
    clear HC3
    try clear c1
    obtain ⟨kq, x21_2, rfl, HA, HJ2, HO_5, HB⟩ := hcut
    cases kq with
    | zero => exact absurd HA.out (by simp [vB.j1])
    | succ kj2 =>
     have H := HA.out
     clear HA
     simp only [vB.j1] at H
     by_cases c5 : x21_2 = true
     ·subst c5
      rw [if_pos rfl] at H
      obtain ⟨⟨t220, t221⟩, A6, H⟩ := oB H
      try dsimp only at H
      obtain ⟨t222, A7, H⟩ := oB H
      try dsimp only at H
      rcases iL H with H1 | H1 <;> clear H <;> obtain ⟨H, c8b0⟩ := H1
      ·by_cases c9 : x5_1.length < 2932031007402
       ·rw [if_pos c9] at H
        have LMc9 := Aside0.mk c9
        clear c9
        obtain ⟨y223, hy_⟩ : ∃ y_ : List (yP), y_ = (x5_1 ++ [(⟨(⟨#[112, 97, 115, 115]⟩ : ByteArray), 0, (⟨0, 0⟩ : jg), 0⟩ : yP)]) := ⟨_, rfl⟩
        replace H : (vB.l0 kj2 l0 l1 y223 t221 x7_1 (l1.length : Int)) = some r := rh
        have Ny223 := aE hy_
        clear hy_
        have H' := Aside0.mk H
        clear H
        go_wp2_with (first | (refine gF 66 26 Tryd.func66 #[.slice A0 l0.length c0, .int .i64 x6_1, .int .u8 x7_1] rfl rfl ?_; (with_reducible refine (ww.calls kj2 _ _ l0 x6_1 x7_1 t220 t221 _ ?side1 ?side2 A6.out).mono ?_); (case side1 => exact cU (Kd.wO HR0.out HB.out)); (case side2 => exact HC0.out); rintro e w10 ⟨rfl, hb⟩; refine ⟨_, rfl, ?_⟩; have n_ := aC (Kd.vT (rU HO_5.out) hb) (aE (bs hb)); clear HO_5 HB; obtain ⟨HO_5, HB⟩ := n_) | (refine gF 67 33 Tryd.func67 #[.slice A1 l1.length c1, .int .i64 x6_1, .int .u8 ((1 - x7_1) % 256)] rfl rfl ?_; (with_reducible refine (vQ.calls kj2 _ _ l1 x6_1 ((1 - x7_1) % 256) t222 _ ?side1 ?side2 A7.out).mono ?_); (case side1 => exact cU (Kd.wO HR1.out HB.out)); (case side2 => exact HC1.out); rintro e w11 ⟨rfl, hb⟩; refine ⟨_, rfl, ?_⟩; have n_ := aC (Kd.vT (rU HO_5.out) hb) (aE (bs hb)); clear HO_5 HB; obtain ⟨HO_5, HB⟩ := n_) | ((with_reducible refine xb (b := .append) (xs := #[.tmp 57, .tmp 59]) rfl ?_); at_builtin; refine Kd.zf k69 (w0 := w) w.heap.size rfl (.tmp 57) (.tmp 59) 65 69 (.agg #[(.string ⟨#[]⟩), (.int .i64 0), (.int .i64 0), (.int .i64 0), (.int .i64 0)]) 48 rfl Tryd.underlying65 info69 rfl (by decide) (by omega) u5 x5_1 (⟨(⟨#[112, 97, 115, 115]⟩ : ByteArray), 0, (⟨0, 0⟩ : jg), 0⟩ : yP) [.string (⟨#[112, 97, 115, 115]⟩ : ByteArray), .int .i64 0, .int .i64 0, .int .i64 0, .int .i64 0] (fun _ => True) (fun _ => False) rfl rfl ?aP (fun _ hk => hk.elim) ?aF ?aO ?aB ?aS ?aL ?_; (case aP => exact kY _ _ _ (⟨(⟨#[112, 97, 115, 115]⟩ : ByteArray), 0, (⟨0, 0⟩ : jg), 0⟩ : yP)); (case aB => exact bl); (case aF => exact (fun _ _ => trivial)); (case aO => exact (rU HO_5.out)); (case aS => exact bz); (case aL => have := LMc9.out; omega); intro v224 w12 ho hb hg hat; rw [← Ny223.out] at ho; have n_ := aC hb (aE ho); clear HB HO_5; obtain ⟨HB, HO225⟩ := n_; clear ho hb hg hat))
        go_roundg kj2
        case measure => have := HK1.out; have := HJ2.out; omega
        case rel => exact ⟨(y223), (t221), (x7_1), rq, rq, H', ⟨by have := HK1.out; have := HJ2.out; omega⟩, ⟨rU HO225.out⟩, ⟨bl⟩⟩
       ·rw [if_neg c9] at H
        exact absurd H (by simp)
      ·rcases iL H with H1 | H1 <;> clear H <;> obtain ⟨H, c13b0⟩ := H1
       ·rcases iL H with H1 | H1 <;> clear H <;> obtain ⟨H, c14b0⟩ := H1
        ·by_cases c15 : x5_1.length < 2932031007402
         ·rw [if_pos c15] at H
          have LMc15 := Aside0.mk c15
          clear c15
          obtain ⟨y226, hy_⟩ : ∃ y_ : List (yP), y_ = (x5_1 ++ [(⟨(⟨#[117, 112]⟩ : ByteArray), wrap64 (t222 - t220), (⟨0, 0⟩ : jg), 0⟩ : yP)]) := ⟨_, rfl⟩
          replace H : (vB.l0 kj2 l0 l1 y226 t222 ((1 - x7_1) % 256) (l1.length : Int)) = some r := rh
          have Ny226 := aE hy_
          clear hy_
          have H' := Aside0.mk H
          clear H
          go_wp2_with (first | (refine gF 66 26 Tryd.func66 #[.slice A0 l0.length c0, .int .i64 x6_1, .int .u8 x7_1] rfl rfl ?_; (with_reducible refine (ww.calls kj2 _ _ l0 x6_1 x7_1 t220 t221 _ ?side1 ?side2 A6.out).mono ?_); (case side1 => exact cU (Kd.wO HR0.out HB.out)); (case side2 => exact HC0.out); rintro e w16 ⟨rfl, hb⟩; refine ⟨_, rfl, ?_⟩; have n_ := aC (Kd.vT (rU HO_5.out) hb) (aE (bs hb)); clear HO_5 HB; obtain ⟨HO_5, HB⟩ := n_) | (refine gF 67 33 Tryd.func67 #[.slice A1 l1.length c1, .int .i64 x6_1, .int .u8 ((1 - x7_1) % 256)] rfl rfl ?_; (with_reducible refine (vQ.calls kj2 _ _ l1 x6_1 ((1 - x7_1) % 256) t222 _ ?side1 ?side2 A7.out).mono ?_); (case side1 => exact cU (Kd.wO HR1.out HB.out)); (case side2 => exact HC1.out); rintro e w17 ⟨rfl, hb⟩; refine ⟨_, rfl, ?_⟩; have n_ := aC (Kd.vT (rU HO_5.out) hb) (aE (bs hb)); clear HO_5 HB; obtain ⟨HO_5, HB⟩ := n_) | ((with_reducible refine xb (b := .append) (xs := #[.tmp 73, .tmp 78]) rfl ?_); at_builtin; refine Kd.zf k69 (w0 := w) w.heap.size rfl (.tmp 73) (.tmp 78) 65 69 (.agg #[(.string ⟨#[]⟩), (.int .i64 0), (.int .i64 0), (.int .i64 0), (.int .i64 0)]) 48 rfl Tryd.underlying65 info69 rfl (by decide) (by omega) u5 x5_1 (⟨(⟨#[117, 112]⟩ : ByteArray), wrap64 (t222 - t220), (⟨0, 0⟩ : jg), 0⟩ : yP) [.string (⟨#[117, 112]⟩ : ByteArray), .int .i64 (wrap64 (t222 - t220)), .int .i64 0, .int .i64 0, .int .i64 0] (fun _ => True) (fun _ => False) rfl rfl ?aP (fun _ hk => hk.elim) ?aF ?aO ?aB ?aS ?aL ?_; (case aP => exact kY _ _ _ (⟨(⟨#[117, 112]⟩ : ByteArray), wrap64 (t222 - t220), (⟨0, 0⟩ : jg), 0⟩ : yP)); (case aB => exact bl); (case aF => exact (fun _ _ => trivial)); (case aO => exact (rU HO_5.out)); (case aS => exact bz); (case aL => have := LMc15.out; omega); intro v227 w18 ho hb hg hat; rw [← Ny226.out] at ho; have n_ := aC hb (aE ho); clear HB HO_5; obtain ⟨HB, HO228⟩ := n_; clear ho hb hg hat))
          go_roundg kj2
          case measure => have := HK1.out; have := HJ2.out; omega
          case rel => exact ⟨(y226), (t222), ((1 - x7_1) % 256), rq, rq, H', ⟨by have := HK1.out; have := HJ2.out; omega⟩, ⟨rU HO228.out⟩, ⟨bl⟩⟩
         ·rw [if_neg c15] at H
          exact absurd H (by simp)
        ·obtain ⟨t229, A19, H⟩ := oB H
         try dsimp only at H
         obtain ⟨ji20, hji20⟩ : ∃ j_ : Int, (mx x6_1 0) = j_ := ⟨_, rfl⟩
         replace H : (if x5_1.length < 2932031007402 then (vB.l0 kj2 l0 l1 (x5_1 ++ [(⟨(⟨#[102, 108, 97, 116]⟩ : ByteArray), 0, (⟨wrap64 (t222 - (ji20)), wrap64 (t229 - t222)⟩ : jg), wrap64 (x7_1)⟩ : yP)]) t229 x7_1 (l1.length : Int)) else (none)) = some r := by first | (rw [hji20] at H; exact H) | (simp only [hji20] at H ⊢; exact H)
         (try rw [hji20] at A6)
         (try rw [hji20] at A7)
         (try rw [hji20] at A19)
         have hji20_ : (if x6_1 < 0 then 0 else x6_1) = ji20 := hji20
         by_cases c21 : x5_1.length < 2932031007402
         ·rw [if_pos c21] at H
          have LMc21 := Aside0.mk c21
          clear c21
          obtain ⟨y230, hy_⟩ : ∃ y_ : List (yP), y_ = (x5_1 ++ [(⟨(⟨#[102, 108, 97, 116]⟩ : ByteArray), 0, (⟨wrap64 (t222 - (ji20)), wrap64 (t229 - t222)⟩ : jg), wrap64 (x7_1)⟩ : yP)]) := ⟨_, rfl⟩
          replace H : (vB.l0 kj2 l0 l1 y230 t229 x7_1 (l1.length : Int)) = some r := rh
          have Ny230 := aE hy_
          clear hy_
          have H' := Aside0.mk H
          clear H
          go_wp2_with (first | (refine gF 66 26 Tryd.func66 #[.slice A0 l0.length c0, .int .i64 x6_1, .int .u8 x7_1] rfl rfl ?_; (with_reducible refine (ww.calls kj2 _ _ l0 x6_1 x7_1 t220 t221 _ ?side1 ?side2 A6.out).mono ?_); (case side1 => exact cU (Kd.wO HR0.out HB.out)); (case side2 => exact HC0.out); rintro e w22 ⟨rfl, hb⟩; refine ⟨_, rfl, ?_⟩; have n_ := aC (Kd.vT (rU HO_5.out) hb) (aE (bs hb)); clear HO_5 HB; obtain ⟨HO_5, HB⟩ := n_) | (refine gF 67 33 Tryd.func67 #[.slice A1 l1.length c1, .int .i64 x6_1, .int .u8 ((1 - x7_1) % 256)] rfl rfl ?_; (with_reducible refine (vQ.calls kj2 _ _ l1 x6_1 ((1 - x7_1) % 256) t222 _ ?side1 ?side2 A7.out).mono ?_); (case side1 => exact cU (Kd.wO HR1.out HB.out)); (case side2 => exact HC1.out); rintro e w23 ⟨rfl, hb⟩; refine ⟨_, rfl, ?_⟩; have n_ := aC (Kd.vT (rU HO_5.out) hb) (aE (bs hb)); clear HO_5 HB; obtain ⟨HO_5, HB⟩ := n_) | (refine gF 67 37 Tryd.func67 #[.slice A1 l1.length c1, .int .i64 t222, .int .u8 x7_1] rfl rfl ?_; (with_reducible refine (vQ.calls kj2 _ _ l1 t222 x7_1 t229 _ ?side1 ?side2 A19.out).mono ?_); (case side1 => exact cU (Kd.wO HR1.out HB.out)); (case side2 => exact HC1.out); rintro e w24 ⟨rfl, hb⟩; refine ⟨_, rfl, ?_⟩; have n_ := aC (Kd.vT (rU HO_5.out) hb) (aE (bs hb)); clear HO_5 HB; obtain ⟨HO_5, HB⟩ := n_) | ((with_reducible refine xb (b := .append) (xs := #[.tmp 38, .tmp 50]) rfl ?_); at_builtin; refine Kd.zf k69 (w0 := w) w.heap.size rfl (.tmp 38) (.tmp 50) 65 69 (.agg #[(.string ⟨#[]⟩), (.int .i64 0), (.int .i64 0), (.int .i64 0), (.int .i64 0)]) 48 rfl Tryd.underlying65 info69 rfl (by decide) (by omega) u5 x5_1 (⟨(⟨#[102, 108, 97, 116]⟩ : ByteArray), 0, (⟨wrap64 (t222 - (ji20)), wrap64 (t229 - t222)⟩ : jg), wrap64 (x7_1)⟩ : yP) [.string (⟨#[102, 108, 97, 116]⟩ : ByteArray), .int .i64 0, .int .i64 (wrap64 (t222 - (ji20))), .int .i64 (wrap64 (t229 - t222)), .int .i64 (wrap64 (x7_1))] (fun _ => True) (fun _ => False) rfl rfl ?aP (fun _ hk => hk.elim) ?aF ?aO ?aB ?aS ?aL ?_; (case aP => exact kY _ _ _ (⟨(⟨#[102, 108, 97, 116]⟩ : ByteArray), 0, (⟨wrap64 (t222 - (ji20)), wrap64 (t229 - t222)⟩ : jg), wrap64 (x7_1)⟩ : yP)); (case aB => exact bl); (case aF => exact (fun _ _ => trivial)); (case aO => exact (rU HO_5.out)); (case aS => exact bz); (case aL => have := LMc21.out; omega); intro v231 w25 ho hb hg hat; rw [← Ny230.out] at ho; have n_ := aC hb (aE ho); clear HB HO_5; obtain ⟨HB, HO232⟩ := n_; clear ho hb hg hat))
          go_roundg kj2
          case measure => have := HK1.out; have := HJ2.out; omega
          case rel => exact ⟨(y230), (t229), (x7_1), rq, rq, H', ⟨by have := HK1.out; have := HJ2.out; omega⟩, ⟨rU HO232.out⟩, ⟨bl⟩⟩
         ·rw [if_neg c21] at H
          exact absurd H (by simp)
       ·obtain ⟨t233, A26, H⟩ := oB H
        try dsimp only at H
        obtain ⟨ji27, hji27⟩ : ∃ j_ : Int, (mx x6_1 0) = j_ := ⟨_, rfl⟩
        replace H : (if x5_1.length < 2932031007402 then (vB.l0 kj2 l0 l1 (x5_1 ++ [(⟨(⟨#[102, 108, 97, 116]⟩ : ByteArray), 0, (⟨wrap64 (t222 - (ji27)), wrap64 (t233 - t222)⟩ : jg), wrap64 (x7_1)⟩ : yP)]) t233 x7_1 (l1.length : Int)) else (none)) = some r := by first | (rw [hji27] at H; exact H) | (simp only [hji27] at H ⊢; exact H)
        (try rw [hji27] at A6)
        (try rw [hji27] at A7)
        (try rw [hji27] at A26)
        have hji27_ : (if x6_1 < 0 then 0 else x6_1) = ji27 := hji27
        by_cases c28 : x5_1.length < 2932031007402
        ·rw [if_pos c28] at H
         have LMc28 := Aside0.mk c28
         clear c28
         obtain ⟨y234, hy_⟩ : ∃ y_ : List (yP), y_ = (x5_1 ++ [(⟨(⟨#[102, 108, 97, 116]⟩ : ByteArray), 0, (⟨wrap64 (t222 - (ji27)), wrap64 (t233 - t222)⟩ : jg), wrap64 (x7_1)⟩ : yP)]) := ⟨_, rfl⟩
         replace H : (vB.l0 kj2 l0 l1 y234 t233 x7_1 (l1.length : Int)) = some r := rh
         have Ny234 := aE hy_
         clear hy_
         have H' := Aside0.mk H
         clear H
         go_wp2_with (first | (refine gF 66 26 Tryd.func66 #[.slice A0 l0.length c0, .int .i64 x6_1, .int .u8 x7_1] rfl rfl ?_; (with_reducible refine (ww.calls kj2 _ _ l0 x6_1 x7_1 t220 t221 _ ?side1 ?side2 A6.out).mono ?_); (case side1 => exact cU (Kd.wO HR0.out HB.out)); (case side2 => exact HC0.out); rintro e w29 ⟨rfl, hb⟩; refine ⟨_, rfl, ?_⟩; have n_ := aC (Kd.vT (rU HO_5.out) hb) (aE (bs hb)); clear HO_5 HB; obtain ⟨HO_5, HB⟩ := n_) | (refine gF 67 33 Tryd.func67 #[.slice A1 l1.length c1, .int .i64 x6_1, .int .u8 ((1 - x7_1) % 256)] rfl rfl ?_; (with_reducible refine (vQ.calls kj2 _ _ l1 x6_1 ((1 - x7_1) % 256) t222 _ ?side1 ?side2 A7.out).mono ?_); (case side1 => exact cU (Kd.wO HR1.out HB.out)); (case side2 => exact HC1.out); rintro e w30 ⟨rfl, hb⟩; refine ⟨_, rfl, ?_⟩; have n_ := aC (Kd.vT (rU HO_5.out) hb) (aE (bs hb)); clear HO_5 HB; obtain ⟨HO_5, HB⟩ := n_) | (refine gF 67 37 Tryd.func67 #[.slice A1 l1.length c1, .int .i64 t222, .int .u8 x7_1] rfl rfl ?_; (with_reducible refine (vQ.calls kj2 _ _ l1 t222 x7_1 t233 _ ?side1 ?side2 A26.out).mono ?_); (case side1 => exact cU (Kd.wO HR1.out HB.out)); (case side2 => exact HC1.out); rintro e w31 ⟨rfl, hb⟩; refine ⟨_, rfl, ?_⟩; have n_ := aC (Kd.vT (rU HO_5.out) hb) (aE (bs hb)); clear HO_5 HB; obtain ⟨HO_5, HB⟩ := n_) | ((with_reducible refine xb (b := .append) (xs := #[.tmp 38, .tmp 50]) rfl ?_); at_builtin; refine Kd.zf k69 (w0 := w) w.heap.size rfl (.tmp 38) (.tmp 50) 65 69 (.agg #[(.string ⟨#[]⟩), (.int .i64 0), (.int .i64 0), (.int .i64 0), (.int .i64 0)]) 48 rfl Tryd.underlying65 info69 rfl (by decide) (by omega) u5 x5_1 (⟨(⟨#[102, 108, 97, 116]⟩ : ByteArray), 0, (⟨wrap64 (t222 - (ji27)), wrap64 (t233 - t222)⟩ : jg), wrap64 (x7_1)⟩ : yP) [.string (⟨#[102, 108, 97, 116]⟩ : ByteArray), .int .i64 0, .int .i64 (wrap64 (t222 - (ji27))), .int .i64 (wrap64 (t233 - t222)), .int .i64 (wrap64 (x7_1))] (fun _ => True) (fun _ => False) rfl rfl ?aP (fun _ hk => hk.elim) ?aF ?aO ?aB ?aS ?aL ?_; (case aP => exact kY _ _ _ (⟨(⟨#[102, 108, 97, 116]⟩ : ByteArray), 0, (⟨wrap64 (t222 - (ji27)), wrap64 (t233 - t222)⟩ : jg), wrap64 (x7_1)⟩ : yP)); (case aB => exact bl); (case aF => exact (fun _ _ => trivial)); (case aO => exact (rU HO_5.out)); (case aS => exact bz); (case aL => have := LMc28.out; omega); intro v235 w32 ho hb hg hat; rw [← Ny234.out] at ho; have n_ := aC hb (aE ho); clear HB HO_5; obtain ⟨HB, HO236⟩ := n_; clear ho hb hg hat))
         go_roundg kj2
         case measure => have := HK1.out; have := HJ2.out; omega
         case rel => exact ⟨(y234), (t233), (x7_1), rq, rq, H', ⟨by have := HK1.out; have := HJ2.out; omega⟩, ⟨rU HO236.out⟩, ⟨bl⟩⟩
        ·rw [if_neg c28] at H
         exact absurd H (by simp)
     ·replace c5 := Bool.eq_false_iff.mpr c5
      subst c5
      rw [if_neg Bool.false_ne_true] at H
      obtain rfl := Option.some.inj H
      go_wp2
      go_ret
      exact ⟨_, re, rU HO_5.out, bl⟩
def yF.f (a0 : Int) : Option ByteArray := if -9223372036854775808 ≤ a0 then (if a0 ≤ 9223372036854775807 then some ⟨(itz a0).toArray⟩ else none) else none
theorem yF.calls (a0 : Int) (r : ByteArray) (w : World) (hT0 : TIs w) (h : yF.f a0 = some r) :
  Calls Tryd.prog 42 #[.int .i64 a0] w fun e w' => e = .returned (.string r) ∧ Below w.heap.size w w' := by
 unfold yF.f at h
 split at h
 ·next h0 =>
  split at h
  ·next h1 =>
   obtain rfl := Option.some.inj h
   rw [itz_eq]
   exact itoa_calls a0 h0 h1 w hT0
  ·cases h
 ·cases h
mutual
def wt.j0 : Nat → List Int → List Int → Bool → Option (List ByteArray × Int)
 | 0, _, _, _ => none
 | k + 1, x0, x1, x24 => if x24 = true then (some (([] : List ByteArray), 2)) else ((vB.f k x0 x1).bind fun t239 => (wt.l0 k ([] : List ByteArray) t239 (t239.length : Int) 0))
def wt.l0 : Nat → List ByteArray → List (yP) → Int → Int → Option (List ByteArray × Int)
 | 0, _, _, _, _ => none
 | k + 1, x6, x27, x28, x29 => if x29 < x28 then (if 0 ≤ x29 then (if x29 < (x27.length : Int) then (if ((vS x27 x29).f0).toList = ([117, 112] : List UInt8) then ((yF.f ((vS x27 x29).f1)).bind fun t244 => (if ((vS x27 x29).f0).size + t244.size ≤ 9223372036854775807 then (if x6.length < 8796093022208 then (wt.l0 k (x6 ++ [((vS x27 x29).f0) ++ t244]) x27 x28 (wrap64 (x29 + 1))) else (none)) else (none))) else (if x6.length < 8796093022208 then (wt.l0 k (x6 ++ [(vS x27 x29).f0]) x27 x28 (wrap64 (x29 + 1))) else (none))) else (none)) else (none)) else (some (x6, 0))
end
def wt.f (k : Nat) (l0 : List Int) (l1 : List Int) : Option (List ByteArray × Int) := (xK.f k l0).bind fun t237 => (if t237 = true then ((xK.f k l1).bind fun t238 => (if t238 = true then (wt.j0 k l0 l1 ((l0.length : Int) != (l1.length : Int))) else (wt.j0 k l0 l1 true))) else (wt.j0 k l0 l1 true))
theorem wt.wj : ∀ k, (∀ y0 y1 y2, vP (wt.j0 k y0 y1 y2) (wt.j0 (k + 1) y0 y1 y2)) ∧ (∀ y0 y1 y2 y3, vP (wt.l0 k y0 y1 y2 y3) (wt.l0 (k + 1) y0 y1 y2 y3))
 | 0 => ⟨fun _ _ _ r h => by simp [wt.j0] at h, fun _ _ _ _ r h => by simp [wt.l0] at h⟩
 | k + 1 => by
  obtain ⟨ih0, ih1⟩ := wt.wj k
  refine ⟨?_, ?_⟩
  ·intro y0 y1 y2
   unfold wt.j0
   repeat' first
   | (with_reducible exact ih0 _ _ _)
   | (with_reducible exact ih1 _ _ _ _)
   | (with_reducible exact xK.mono _ _)
   | (with_reducible exact vB.mono _ _ _)
   | (with_reducible first | exact vP.refl _ | exact vP.none _ | apply vP.ite | refine vP.bind ?_ fun _ => ?_)
  ·intro y0 y1 y2 y3
   unfold wt.l0
   repeat' first
   | (with_reducible exact ih0 _ _ _)
   | (with_reducible exact ih1 _ _ _ _)
   | (with_reducible exact xK.mono _ _)
   | (with_reducible exact vB.mono _ _ _)
   | (with_reducible first | exact vP.refl _ | exact vP.none _ | apply vP.ite | refine vP.bind ?_ fun _ => ?_)
theorem wt.mono : ∀ a0 a1 k, vP (wt.f k a0 a1) (wt.f (k + 1) a0 a1) := by
 intro a0 a1 k
 obtain ⟨ih0, ih1⟩ := wt.wj k
 unfold wt.f
 repeat' first
   | (with_reducible exact ih0 _ _ _)
   | (with_reducible exact ih1 _ _ _ _)
   | (with_reducible exact xK.mono _ _)
   | (with_reducible exact vB.mono _ _ _)
   | (with_reducible first | exact vP.refl _ | exact vP.none _ | apply vP.ite | refine vP.bind ?_ fun _ => ?_)
set_option maxHeartbeats 8000000 in
set_option maxRecDepth 100000 in
theorem wt.calls (k : Nat) (A0 : Option Addr) (c0 : Nat) (l0 : List Int) (A1 : Option Addr) (c1 : Nat) (l1 : List Int) (r1 : List ByteArray) (r2 : Int) (w : World) (hT0 : TIs w) (hr0 : Kd.C (Kd.int .u8) w A0 l0.length l0) (hc0 : l0.length ≤ c0) (hr1 : Kd.C (Kd.int .u8) w A1 l1.length l1) (hc1 : l1.length ≤ c1) (h : wt.f k l0 l1 = some (r1, r2)) :
  Calls Tryd.prog 16 #[.slice A0 l0.length c0, .slice A1 l1.length c1] w fun e w' => ∃ v0_ : Value, e = .returned (.tuple #[v0_, .int .i64 r2]) ∧ Kd.R Kd.string 9 w' w.heap.size (fun _ => True) v0_ r1 ∧ Below w.heap.size w w' := by
 have HTI := Aside0.mk hT0
 clear hT0
 have hu69 := Tryd.underlying69
 have HR0 := Aside0.mk hr0
 have HC0 := Aside0.mk hc0
 clear hr0 hc0
 have HR1 := Aside0.mk hr1
 have HC1 := Aside0.mk hc1
 clear hr1 hc1
 have HB := Aside0.mk (Below.refl w.heap.size w)
 have H := h
 unfold wt.f at H
 clear h
 have HC3 := Aside0.mk H
 clear H
 go_enter Tryd.func16, Tryd.ntmps16
 go_upto_region 1 with (fail)
 go_cut [24] (fun v24 wc => ∃ (kq : Nat) (x24_2 : Bool), v24 = .bool x24_2 ∧ Aside0 (wt.j0 kq l0 l1 x24_2 = some (r1, r2)) ∧ Aside0 (kq ≤ k) ∧ Aside0 (Below w.heap.size w wc))
 case first =>
  have H := HC3.out
  clear HC3
  obtain ⟨t237, A4, H⟩ := oB H
  try dsimp only at H
  by_cases c5 : t237 = true
  ·subst c5
   rw [if_pos rfl] at H
   obtain ⟨t238, A6, H⟩ := oB H
   try dsimp only at H
   by_cases c7 : t238 = true
   ·subst c7
    rw [if_pos rfl] at H
    have H' := Aside0.mk H
    clear H
    go_wp2_with (first | (refine gF 40 11 Tryd.func40 #[.slice A0 l0.length c0] rfl rfl ?_; (with_reducible refine (xK.calls k _ _ l0 true _ ?side1 ?side2 A4.out).mono ?_); (case side1 => exact cU (Kd.wO HR0.out HB.out)); (case side2 => exact HC0.out); rintro e w8 ⟨rfl, hb⟩; refine ⟨_, rfl, ?_⟩; have n_ := aE (bs hb); clear HB; have HB := n_; clear n_) | (go_at_call 40; (with_reducible refine (xK.calls k _ _ l1 true _ ?side1 ?side2 A6.out).mono ?_); (case side1 => exact cU (Kd.wO HR1.out HB.out)); (case side2 => exact HC1.out); rintro e w9 ⟨rfl, hb⟩; have n_ := aE (bs hb); clear HB; have HB := n_; clear n_))
    go_meet
    case rel => exact ⟨_, (((l0.length : Int) != (l1.length : Int))), rq, H', ⟨by first | omega | exact Nat.le_refl _⟩, ⟨bl⟩⟩
   ·replace c7 := Bool.eq_false_iff.mpr c7
    subst c7
    rw [if_neg Bool.false_ne_true] at H
    have H' := Aside0.mk H
    clear H
    go_wp2_with (first | (refine gF 40 11 Tryd.func40 #[.slice A0 l0.length c0] rfl rfl ?_; (with_reducible refine (xK.calls k _ _ l0 true _ ?side1 ?side2 A4.out).mono ?_); (case side1 => exact cU (Kd.wO HR0.out HB.out)); (case side2 => exact HC0.out); rintro e w10 ⟨rfl, hb⟩; refine ⟨_, rfl, ?_⟩; have n_ := aE (bs hb); clear HB; have HB := n_; clear n_) | (go_at_call 40; (with_reducible refine (xK.calls k _ _ l1 false _ ?side1 ?side2 A6.out).mono ?_); (case side1 => exact cU (Kd.wO HR1.out HB.out)); (case side2 => exact HC1.out); rintro e w11 ⟨rfl, hb⟩; have n_ := aE (bs hb); clear HB; have HB := n_; clear n_))
    go_meet
    case rel => exact ⟨_, (true), rq, H', ⟨by first | omega | exact Nat.le_refl _⟩, ⟨bl⟩⟩
  ·replace c5 := Bool.eq_false_iff.mpr c5
   subst c5
   rw [if_neg Bool.false_ne_true] at H
   have H' := Aside0.mk H
   clear H
   go_wp2_with (first | (refine gF 40 11 Tryd.func40 #[.slice A0 l0.length c0] rfl rfl ?_; (with_reducible refine (xK.calls k _ _ l0 false _ ?side1 ?side2 A4.out).mono ?_); (case side1 => exact cU (Kd.wO HR0.out HB.out)); (case side2 => exact HC0.out); rintro e w12 ⟨rfl, hb⟩; refine ⟨_, rfl, ?_⟩; have n_ := aE (bs hb); clear HB; have HB := n_; clear n_))
   go_meet
   case rel => exact ⟨_, (true), rq, H', ⟨by first | omega | exact Nat.le_refl _⟩, ⟨bl⟩⟩
 case rest =>
  clear HC3
  try clear c1
  obtain ⟨kq, x24_2, rfl, HA, HJ2, HB⟩ := hcut
  cases kq with
  | zero => exact absurd HA.out (by simp [wt.j0])
  | succ kj2 =>
   have H := HA.out
   clear HA
   simp only [wt.j0] at H
   by_cases c13 : x24_2 = true
   ·subst c13
    rw [if_pos rfl] at H
    simp only [Option.some.injEq, Prod.mk.injEq] at H
    obtain ⟨rfl, rfl⟩ := H
    go_wp2
    go_ret2
    exact ⟨_, re, by first | exact Kd.yC _ _ _ _ _ | exact Kd.za _ _ _ _ _ | exact Kd.y9 _ _ _ _ _ | exact Kd.zb _ _ _ _ _ | exact Kd.yZ _ _ _ _ _, bl⟩
   ·replace c13 := Bool.eq_false_iff.mpr c13
    subst c13
    rw [if_neg Bool.false_ne_true] at H
    obtain ⟨t239, A14, H⟩ := oB H
    try dsimp only at H
    have H' := Aside0.mk H
    clear H
    go_wp2_with (first | (refine gF 41 27 Tryd.func41 #[.slice A0 l0.length c0, .slice A1 l1.length c1] rfl rfl ?_; (with_reducible refine (vB.calls kj2 _ _ l0 _ _ l1 t239 _ ?side1 ?side2 ?side3 ?side4 A14.out).mono ?_); (case side1 => exact cU (Kd.wO HR0.out HB.out)); (case side2 => exact HC0.out); (case side3 => exact cU (Kd.wO HR1.out HB.out)); (case side4 => exact HC1.out); rintro e w15 ⟨v240, rfl, ho0, hb⟩; refine ⟨_, rfl, ?_⟩; have n_ := aC (Kd.vX ho0 bz) (aE (bs hb)); clear HB; obtain ⟨HO241, HB⟩ := n_; obtain ⟨Ao16, co16, eo16⟩ := Kd.wq HO241.out; subst eo16))
    go_loopg [6, 29] kj2 (fun kq v6 v29 w' => ∃ (x6_2 : List ByteArray) (x29_2 : Int), v29 = .int .i64 x29_2 ∧ Aside0 (wt.l0 kq x6_2 t239 (t239.length : Int) x29_2 = some (r1, r2)) ∧ Aside0 (kq ≤ kj2) ∧ Aside0 (Kd.R Kd.string 9 w' w.heap.size (fun _ => True) v6 x6_2) ∧ Aside0 (Kd.R k69 69 w' w.heap.size (fun _ => True) (.slice Ao16 t239.length co16) t239) ∧ Aside0 (Below w.heap.size w w'))
    case atStart => exact ⟨(([] : List ByteArray)), (0), rq, H', ⟨Nat.le_refl _⟩, ⟨by first | exact Kd.yC _ _ _ _ _ | exact Kd.za _ _ _ _ _ | exact Kd.y9 _ _ _ _ _ | exact Kd.zb _ _ _ _ _ | exact Kd.yZ _ _ _ _ _⟩, ⟨rU HO241.out⟩, ⟨bl⟩⟩
    case round =>
     clear H'
     try clear c1
     obtain ⟨x6_2, x29_2, rfl, HA, HK2, HO_6, HO_27, HB⟩ := hrel
     cases gk with
     | zero => exact absurd HA.out (by simp [wt.l0])
     | succ k2 =>
      have H := HA.out
      clear HA
      simp only [wt.l0] at H
      rcases iL H with H1 | H1 <;> clear H <;> obtain ⟨H, c17b0⟩ := H1
      ·by_cases c18 : 0 ≤ x29_2
       ·rw [if_pos c18] at H
        have c18b0 := decide_eq_true c18
        clear c18
        by_cases c19 : x29_2 < (t239.length : Int)
        ·rw [if_pos c19] at H
         have c19b0 := decide_eq_true c19
         clear c19
         rcases iE H with H1 | H1 <;> clear H <;> obtain ⟨H, c20b0, c20b1, c20⟩ := H1
         ·obtain ⟨t244, A21, H⟩ := oB H
          try dsimp only at H
          by_cases c22 : ((vS t239 x29_2).f0).size + t244.size ≤ 9223372036854775807
          ·rw [if_pos c22] at H
           have c22b0 := eq_true c22
           have c22b1 := decide_eq_true c22
           try have c22b2 : (9223372036854775807 < ((vS t239 x29_2).f0).size + t244.size) = False := eq_false (Nat.not_lt.2 c22)
           by_cases c23 : x6_2.length < 8796093022208
           ·rw [if_pos c23] at H
            have LMc23 := Aside0.mk c23
            clear c23
            obtain ⟨y245, hy_⟩ : ∃ y_ : List ByteArray, y_ = (x6_2 ++ [((vS t239 x29_2).f0) ++ t244]) := ⟨_, rfl⟩
            replace H : (wt.l0 k2 y245 t239 (t239.length : Int) (wrap64 (x29_2 + 1))) = some (r1, r2) := rh
            have Ny245 := aE hy_
            clear hy_
            have H' := Aside0.mk H
            clear H
            have p242 : 0 ≤ (x29_2 : Int) := dt
            have q242 : x29_2 < (t239.length : Int) := dt
            obtain ⟨ad242, e242, hx242_0, hx242_1, hx242_2, hx242_3, hx242_4⟩ := at_T69 (Kd.R_reads' HO_27.out).2.2 x29_2 p242 q242
            cases e242
            replace p242 := eq_true p242
            replace q242 := eq_true q242
            go_wp2_with (first | ((with_reducible refine gd 8 rfl ?_); (try (refine yb (by rfl) ?_; dsimp only)); refine bx 8 #[.string (⟨#[]⟩ : ByteArray), .int .i64 0, .int .i64 0, .int .i64 0, .int .i64 0] 69 rfl rfl ?_; intro gb243 hg w24 hbox hb; have n_ := aC (Kd.vT (rU HO_6.out) hb) (aC (Kd.vT (Kd.jI (rU HO_27.out) gb243 (Nat.le_of_eq hg.symm)) hb) (aC (bs hb) (aC hbox (aC (gz hg) (aE (gz hg)))))); clear HO_6 HO_27 HB; obtain ⟨HO_6, HO_27, HB, BK243, GW243, GE243⟩ := n_; clear hb hbox hg; obtain ⟨hcz25_0, hcz25_1, hcz25_2, hcz25_3, hcz25_4, hfz25_0, hfz25_1, hfz25_2, hfz25_3, hfz25_4⟩ := ya BK243.out) | (refine gF 42 40 Tryd.func42 #[.int .i64 ((vS t239 x29_2).f1)] rfl rfl ?_; (with_reducible refine (yF.calls ((vS t239 x29_2).f1) t244 _ (TIs.on HTI) A21.out).mono ?_); rintro e w26 ⟨rfl, hb⟩; refine ⟨_, rfl, ?_⟩; have n_ := aC (Kd.vT (rU (Kd.vY (Kd.wI (p := ⟨gb243, 4, none⟩) (Kd.wI (p := ⟨gb243, 3, none⟩) (Kd.wI (p := ⟨gb243, 2, none⟩) (Kd.wI (p := ⟨gb243, 1, none⟩) (Kd.wI (p := ⟨gb243, 0, none⟩) (Kd.xu HO_6.out BK243.out (by decide)) (fun _ hk => hk.2) (.string ((vS t239 x29_2).f0))) (fun _ hk => hk.2) (.int .i64 ((vS t239 x29_2).f1))) (fun _ hk => hk.2) (.int .i64 ((vS t239 x29_2).f2.f0))) (fun _ hk => hk.2) (.int .i64 ((vS t239 x29_2).f2.f1))) (fun _ hk => hk.2) (.int .i64 ((vS t239 x29_2).f3))) (fun _ h_ => h_.1))) hb) (aC (Kd.vT (rU (Kd.vY (Kd.wI (p := ⟨gb243, 4, none⟩) (Kd.wI (p := ⟨gb243, 3, none⟩) (Kd.wI (p := ⟨gb243, 2, none⟩) (Kd.wI (p := ⟨gb243, 1, none⟩) (Kd.wI (p := ⟨gb243, 0, none⟩) (Kd.vY HO_27.out (fun k_ hk => (⟨hk, hk.2⟩ : _ ∧ k_ ≠ gb243))) (fun _ hk => hk.2) (.string ((vS t239 x29_2).f0))) (fun _ hk => hk.2) (.int .i64 ((vS t239 x29_2).f1))) (fun _ hk => hk.2) (.int .i64 ((vS t239 x29_2).f2.f0))) (fun _ hk => hk.2) (.int .i64 ((vS t239 x29_2).f2.f1))) (fun _ hk => hk.2) (.int .i64 ((vS t239 x29_2).f3))) (fun _ h_ => h_.1))) hb) (aC (vu (g := gb243) (o := .cells #[.string ((vS t239 x29_2).f0), .int .i64 ((vS t239 x29_2).f1), .int .i64 ((vS t239 x29_2).f2.f0), .int .i64 ((vS t239 x29_2).f2.f1), .int .i64 ((vS t239 x29_2).f3)] 69 (0, 0)) (by (with_reducible repeat first | apply vl | apply vn | apply vm); refine vv (cs := #[.string ((vS t239 x29_2).f0), .int .i64 ((vS t239 x29_2).f1), .int .i64 ((vS t239 x29_2).f2.f0), .int .i64 ((vS t239 x29_2).f2.f1), .int .i64 0]) ?_ 4 _ rfl; (with_reducible repeat first | apply vl | apply vn | apply vm); refine vv (cs := #[.string ((vS t239 x29_2).f0), .int .i64 ((vS t239 x29_2).f1), .int .i64 ((vS t239 x29_2).f2.f0), .int .i64 0, .int .i64 0]) ?_ 3 _ rfl; (with_reducible repeat first | apply vl | apply vn | apply vm); refine vv (cs := #[.string ((vS t239 x29_2).f0), .int .i64 ((vS t239 x29_2).f1), .int .i64 0, .int .i64 0, .int .i64 0]) ?_ 2 _ rfl; (with_reducible repeat first | apply vl | apply vn | apply vm); refine vv (cs := #[.string ((vS t239 x29_2).f0), .int .i64 0, .int .i64 0, .int .i64 0, .int .i64 0]) ?_ 1 _ rfl; (with_reducible repeat first | apply vl | apply vn | apply vm); refine vv (cs := #[.string (⟨#[]⟩ : ByteArray), .int .i64 0, .int .i64 0, .int .i64 0, .int .i64 0]) ?_ 0 _ rfl; (with_reducible repeat first | apply vl | apply vn | apply vm); exact BK243.out) hb) (aE (bs hb)))); clear HO_6 HO_27 BK243 HB; obtain ⟨HO_6, HO_27, BK243, HB⟩ := n_) | ((with_reducible refine xb (b := .append) (xs := #[.tmp 42, .tmp 44]) rfl ?_); (try (refine yb (by rfl) ?_; dsimp only)); at_builtin; refine Kd.zf Kd.string (w0 := w) w.heap.size rfl (.tmp 42) (.tmp 44) 30 9 (.string ⟨#[]⟩) 16 rfl Tryd.underlying30 info9 rfl (by decide) (by omega) u6 x6_2 (((vS t239 x29_2).f0) ++ t244) [.string (((vS t239 x29_2).f0) ++ t244)] (fun _ => True) (fun _ => False) rfl rfl ?aP (fun _ hk => hk.elim) ?aF ?aO ?aB ?aS ?aL ?_; (case aP => exact rfl); (case aB => exact bl); (case aF => exact (fun _ _ => trivial)); (case aO => exact (rU HO_6.out)); (case aS => exact bz); (case aL => have := LMc23.out; omega); intro v246 w27 ho hb hg hat; rw [← Ny245.out] at ho; have n_ := aC (Kd.R_over' (rU HO_27.out) (Kd.zB (rU HO_6.out)) (by decide) hg) (aC (xx (g := gb243) (o := .cells #[.string ((vS t239 x29_2).f0), .int .i64 ((vS t239 x29_2).f1), .int .i64 ((vS t239 x29_2).f2.f0), .int .i64 ((vS t239 x29_2).f2.f1), .int .i64 ((vS t239 x29_2).f3)] 69 (0, 0)) (bU BK243.out) hg (Kd.jh HO_6.out BK243.out (by decide))) (aC hb (aE ho))); clear HO_27 BK243 HB HO_6; obtain ⟨HO_27, BK243, HB, HO247⟩ := n_; clear ho hb hg hat))
            go_roundg k2
            case measure => have := HJ2.out; have := HK2.out; omega
            case rel => exact ⟨(y245), (wrap64 (x29_2 + 1)), rq, H', ⟨by have := HJ2.out; have := HK2.out; omega⟩, ⟨rU HO247.out⟩, ⟨rU (Kd.vY HO_27.out (fun _ hk => trivial))⟩, ⟨bl⟩⟩
           ·rw [if_neg c23] at H
            exact absurd H (by simp)
          ·rw [if_neg c22] at H
           exact absurd H (by simp)
         ·by_cases c28 : x6_2.length < 8796093022208
          ·rw [if_pos c28] at H
           have LMc28 := Aside0.mk c28
           clear c28
           obtain ⟨y248, hy_⟩ : ∃ y_ : List ByteArray, y_ = (x6_2 ++ [(vS t239 x29_2).f0]) := ⟨_, rfl⟩
           replace H : (wt.l0 k2 y248 t239 (t239.length : Int) (wrap64 (x29_2 + 1))) = some (r1, r2) := rh
           have Ny248 := aE hy_
           clear hy_
           have H' := Aside0.mk H
           clear H
           have p242 : 0 ≤ (x29_2 : Int) := dt
           have q242 : x29_2 < (t239.length : Int) := dt
           obtain ⟨ad242, e242, hx242_0, hx242_1, hx242_2, hx242_3, hx242_4⟩ := at_T69 (Kd.R_reads' HO_27.out).2.2 x29_2 p242 q242
           cases e242
           replace p242 := eq_true p242
           replace q242 := eq_true q242
           go_wp2_with (first | ((with_reducible refine gd 8 rfl ?_); (try (refine yb (by rfl) ?_; dsimp only)); refine bx 8 #[.string (⟨#[]⟩ : ByteArray), .int .i64 0, .int .i64 0, .int .i64 0, .int .i64 0] 69 rfl rfl ?_; intro gb243 hg w29 hbox hb; have n_ := aC (Kd.vT (rU HO_6.out) hb) (aC (Kd.vT (Kd.jI (rU HO_27.out) gb243 (Nat.le_of_eq hg.symm)) hb) (aC (bs hb) (aC hbox (aC (gz hg) (aE (gz hg)))))); clear HO_6 HO_27 HB; obtain ⟨HO_6, HO_27, HB, BK243, GW243, GE243⟩ := n_; clear hb hbox hg; obtain ⟨hcz30_0, hcz30_1, hcz30_2, hcz30_3, hcz30_4, hfz30_0, hfz30_1, hfz30_2, hfz30_3, hfz30_4⟩ := ya BK243.out) | ((with_reducible refine xb (b := .append) (xs := #[.tmp 42, .tmp 44]) rfl ?_); (try (refine yb (by rfl) ?_; dsimp only)); at_builtin; refine Kd.zf Kd.string (w0 := w) w.heap.size rfl (.tmp 42) (.tmp 44) 30 9 (.string ⟨#[]⟩) 16 rfl Tryd.underlying30 info9 rfl (by decide) (by omega) u6 x6_2 ((vS t239 x29_2).f0) [.string ((vS t239 x29_2).f0)] (fun _ => True) (fun _ => False) rfl (by first | (go_simp; done) | (go_simp; rfl)) ?aP (fun _ hk => hk.elim) ?aF ?aO ?aB ?aS ?aL ?_; (case aP => exact rfl); (case aB => exact bl); (case aF => exact (fun _ _ => trivial)); (case aO => exact (rU (Kd.vY (Kd.wI (p := ⟨gb243, 4, none⟩) (Kd.wI (p := ⟨gb243, 3, none⟩) (Kd.wI (p := ⟨gb243, 2, none⟩) (Kd.wI (p := ⟨gb243, 1, none⟩) (Kd.wI (p := ⟨gb243, 0, none⟩) (Kd.xu HO_6.out BK243.out (by decide)) (fun _ hk => hk.2) (.string ((vS t239 x29_2).f0))) (fun _ hk => hk.2) (.int .i64 ((vS t239 x29_2).f1))) (fun _ hk => hk.2) (.int .i64 ((vS t239 x29_2).f2.f0))) (fun _ hk => hk.2) (.int .i64 ((vS t239 x29_2).f2.f1))) (fun _ hk => hk.2) (.int .i64 ((vS t239 x29_2).f3))) (fun _ hk => trivial)))); (case aS => exact bz); (case aL => have := LMc28.out; omega); intro v249 w31 ho hb hg hat; rw [← Ny248.out] at ho; have n_ := aC (Kd.R_over' (rU (Kd.vY (Kd.wI (p := ⟨gb243, 4, none⟩) (Kd.wI (p := ⟨gb243, 3, none⟩) (Kd.wI (p := ⟨gb243, 2, none⟩) (Kd.wI (p := ⟨gb243, 1, none⟩) (Kd.wI (p := ⟨gb243, 0, none⟩) (Kd.vY HO_27.out (fun k_ hk => (⟨hk, hk.2⟩ : _ ∧ k_ ≠ gb243))) (fun _ hk => hk.2) (.string ((vS t239 x29_2).f0))) (fun _ hk => hk.2) (.int .i64 ((vS t239 x29_2).f1))) (fun _ hk => hk.2) (.int .i64 ((vS t239 x29_2).f2.f0))) (fun _ hk => hk.2) (.int .i64 ((vS t239 x29_2).f2.f1))) (fun _ hk => hk.2) (.int .i64 ((vS t239 x29_2).f3))) (fun _ h_ => h_.1))) (Kd.zB (rU (Kd.vY (Kd.wI (p := ⟨gb243, 4, none⟩) (Kd.wI (p := ⟨gb243, 3, none⟩) (Kd.wI (p := ⟨gb243, 2, none⟩) (Kd.wI (p := ⟨gb243, 1, none⟩) (Kd.wI (p := ⟨gb243, 0, none⟩) (Kd.xu HO_6.out BK243.out (by decide)) (fun _ hk => hk.2) (.string ((vS t239 x29_2).f0))) (fun _ hk => hk.2) (.int .i64 ((vS t239 x29_2).f1))) (fun _ hk => hk.2) (.int .i64 ((vS t239 x29_2).f2.f0))) (fun _ hk => hk.2) (.int .i64 ((vS t239 x29_2).f2.f1))) (fun _ hk => hk.2) (.int .i64 ((vS t239 x29_2).f3))) (fun _ h_ => h_.1)))) (by decide) hg) (aC (xx (g := gb243) (o := .cells #[.string ((vS t239 x29_2).f0), .int .i64 ((vS t239 x29_2).f1), .int .i64 ((vS t239 x29_2).f2.f0), .int .i64 ((vS t239 x29_2).f2.f1), .int .i64 ((vS t239 x29_2).f3)] 69 (0, 0)) (by (with_reducible repeat first | apply vl | apply vn | apply vm); refine vv (cs := #[.string ((vS t239 x29_2).f0), .int .i64 ((vS t239 x29_2).f1), .int .i64 ((vS t239 x29_2).f2.f0), .int .i64 ((vS t239 x29_2).f2.f1), .int .i64 0]) ?_ 4 _ rfl; (with_reducible repeat first | apply vl | apply vn | apply vm); refine vv (cs := #[.string ((vS t239 x29_2).f0), .int .i64 ((vS t239 x29_2).f1), .int .i64 ((vS t239 x29_2).f2.f0), .int .i64 0, .int .i64 0]) ?_ 3 _ rfl; (with_reducible repeat first | apply vl | apply vn | apply vm); refine vv (cs := #[.string ((vS t239 x29_2).f0), .int .i64 ((vS t239 x29_2).f1), .int .i64 0, .int .i64 0, .int .i64 0]) ?_ 2 _ rfl; (with_reducible repeat first | apply vl | apply vn | apply vm); refine vv (cs := #[.string ((vS t239 x29_2).f0), .int .i64 0, .int .i64 0, .int .i64 0, .int .i64 0]) ?_ 1 _ rfl; (with_reducible repeat first | apply vl | apply vn | apply vm); refine vv (cs := #[.string (⟨#[]⟩ : ByteArray), .int .i64 0, .int .i64 0, .int .i64 0, .int .i64 0]) ?_ 0 _ rfl; (with_reducible repeat first | apply vl | apply vn | apply vm); exact BK243.out) hg (Kd.jh HO_6.out BK243.out (by decide))) (aC hb (aE ho))); clear HO_27 BK243 HB HO_6; obtain ⟨HO_27, BK243, HB, HO250⟩ := n_; clear ho hb hg hat))
           go_roundg k2
           case measure => have := HJ2.out; have := HK2.out; omega
           case rel => exact ⟨(y248), (wrap64 (x29_2 + 1)), rq, H', ⟨by have := HJ2.out; have := HK2.out; omega⟩, ⟨rU HO250.out⟩, ⟨rU (Kd.vY HO_27.out (fun _ hk => trivial))⟩, ⟨bl⟩⟩
          ·rw [if_neg c28] at H
           exact absurd H (by simp)
        ·rw [if_neg c19] at H
         exact absurd H (by simp)
       ·rw [if_neg c18] at H
        exact absurd H (by simp)
      ·simp only [Option.some.injEq, Prod.mk.injEq] at H
       obtain ⟨rfl, rfl⟩ := H
       go_wp2
       go_ret2
       exact ⟨_, re, rU HO_6.out, bl⟩
end Go.Proofs.YtknclbodinfbeaaDoor.PRunsSame
