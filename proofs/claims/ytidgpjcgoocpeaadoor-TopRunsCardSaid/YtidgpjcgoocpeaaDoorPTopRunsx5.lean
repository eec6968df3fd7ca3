-- printed (wip/tools/myprint.py)
import Derived.Test.YtidgpjcgoocpeaaDoorPTopRunsx0
import Derived.Test.YtidgpjcgoocpeaaDoorPTopRunsx4
namespace Go.Proofs.YtidgpjcgoocpeaaDoor.PTopRuns
open Go.RowKit Go.Proofs.YtidgpjcgoocpeaaDoorW.PrintWords Go.Proofs.YtidgpjcgoocpeaaDoorW.PrintLast Go.Proofs.YtidgpjcgoocpeaaDoorW.PrintMore
attribute [local go_sem] max2_int min2_int max_two min_two max_three min_three max_four min_four
set_option linter.unusedVariables false
set_option linter.unusedSimpArgs false
def runs_marks.l0 : Nat → List Int → Int → Int → Option (Int × Int)
 | 0, _, _, _ => none
 | k + 1, x0, x2, x6 => if x6 < (x0.length : Int) then (if x6 > 0 then (if 0 ≤ (wrap64 (x6 - 1)) then (if (wrap64 (x6 - 1)) < (x0.length : Int) then (if 0 ≤ x6 then (if (rd x0 x6) = x2 then (runs_marks.l0 k x0 x2 (wrap64 (x6 + 1))) else (if (rd x0 (wrap64 (x6 - 1))) = x2 then ((runs_change.f k x0 (mn x6 (x0.length : Int)) x2).bind fun t221 => (some (mn x6 (x0.length : Int), t221))) else (runs_marks.l0 k x0 x2 (wrap64 (x6 + 1))))) else (none)) else (none)) else (none)) else (if 0 ≤ x6 then (if (rd x0 x6) = x2 then (runs_marks.l0 k x0 x2 (wrap64 (x6 + 1))) else (if 0 = x2 then ((runs_change.f k x0 (mn x6 (x0.length : Int)) x2).bind fun t223 => (some (mn x6 (x0.length : Int), t223))) else (runs_marks.l0 k x0 x2 (wrap64 (x6 + 1))))) else (none))) else ((runs_change.f k x0 (mn x6 (x0.length : Int)) x2).bind fun t218 => (some (mn x6 (x0.length : Int), t218)))
def runs_marks.f (k : Nat) (l0 : List Int) (a1 : Int) (a2 : Int) : Option (Int × Int) := runs_marks.l0 k l0 a2 (wrap64 (a1 + 1))
theorem runs_marks.mono_l : ∀ k, (∀ y0 y1 y2, LeO (runs_marks.l0 k y0 y1 y2) (runs_marks.l0 (k + 1) y0 y1 y2))
 | 0 => fun _ _ _ r h => by simp [runs_marks.l0] at h
 | k + 1 => by
  have ih0 := runs_marks.mono_l k
  ·intro y0 y1 y2
   unfold runs_marks.l0
   repeat' first
   | (with_reducible exact ih0 _ _ _)
   | (with_reducible exact runs_change.mono _ _ _ _)
   | (with_reducible first | exact LeO.refl _ | exact LeO.none _ | refine LeO.ite ?_ ?_ | refine LeO.bind ?_ (fun _ => ?_))
theorem runs_marks.mono : ∀ a0 a1 a2 k, LeO (runs_marks.f k a0 a1 a2) (runs_marks.f (k + 1) a0 a1 a2) := by
 intro a0 a1 a2 k
 have ih0 := runs_marks.mono_l k
 unfold runs_marks.f
 repeat' first
   | (with_reducible exact ih0 _ _ _)
   | (with_reducible exact runs_change.mono _ _ _ _)
   | (with_reducible first | exact LeO.refl _ | exact LeO.none _ | refine LeO.ite ?_ ?_ | refine LeO.bind ?_ (fun _ => ?_))
set_option maxHeartbeats 8000000 in
set_option maxRecDepth 100000 in
theorem runs_marks.calls (k : Nat) (A0 : Option Addr) (c0 : Nat) (l0 : List Int) (a1 : Int) (a2 : Int) (r1 : Int) (r2 : Int) (w : World) (hr0 : Kd.C (Kd.int .u8) w A0 l0.length l0) (hc0 : l0.length ≤ c0) (h : runs_marks.f k l0 a1 a2 = some (r1, r2)) :
  Calls Tryd.prog 40 #[.slice A0 l0.length c0, .int .i64 a1, .int .u8 a2] w fun e w' => e = .returned (.tuple #[.int .i64 r1, .int .i64 r2]) ∧ Below w.heap.size w w' := by
 have HR0 := Aside0.mk hr0
 have HC0 := Aside0.mk hc0
 clear hr0 hc0
 have HB := Aside0.mk (Below.refl w.heap.size w)
 have H : (runs_marks.l0 k l0 a2 (wrap64 (a1 + 1))) = some (r1, r2) := h
 clear h
 have H' := Aside0.mk H
 clear H
 go_enter Tryd.func40, Tryd.ntmps40
 go_wp2
 go_loopg [6] k (fun kq v6 w' => ∃ (x6_1 : Int), v6 = .int .i64 x6_1 ∧ Aside0 (runs_marks.l0 kq l0 a2 x6_1 = some (r1, r2)) ∧ Aside0 (kq ≤ k) ∧ Aside0 (Below w.heap.size w w'))
 case atStart => exact ⟨(wrap64 (a1 + 1)), rq, H', ⟨Nat.le_refl _⟩, ⟨bl⟩⟩
 case round =>
  clear H'
  obtain ⟨x6_1, rfl, HA, HK1, HB⟩ := hrel
  cases gk with
  | zero => exact absurd HA.out (by simp [runs_marks.l0])
  | succ k1 =>
   have H := HA.out
   clear HA
   simp only [runs_marks.l0] at H
   rcases iL H with H1 | H1 <;> clear H <;> obtain ⟨H, c4b0⟩ := H1
   ·rcases iL H with H1 | H1 <;> clear H <;> obtain ⟨H, c5b0⟩ := H1
    ·obtain ⟨ji6, hji6⟩ : ∃ j_ : Int, (wrap64 (x6_1 - 1)) = j_ := ⟨_, rfl⟩
     replace H : (if 0 ≤ (ji6) then (if (ji6) < (l0.length : Int) then (if 0 ≤ x6_1 then (if (rd l0 x6_1) = a2 then (runs_marks.l0 k1 l0 a2 (wrap64 (x6_1 + 1))) else (if (rd l0 (ji6)) = a2 then ((runs_change.f k1 l0 (mn x6_1 (l0.length : Int)) a2).bind fun t221 => (some (mn x6_1 (l0.length : Int), t221))) else (runs_marks.l0 k1 l0 a2 (wrap64 (x6_1 + 1))))) else (none)) else (none)) else (none)) = some (r1, r2) := by first | (rw [hji6] at H; exact H) | (simp only [hji6] at H ⊢; exact H)
     have hji6w : (IntKind.i64.wrap (x6_1 - 1)) = ji6 := (i64_w _).trans hji6
     by_cases c7 : 0 ≤ (ji6)
     ·rw [if_pos c7] at H
      have c7b0 := decide_eq_true c7
      clear c7
      by_cases c8 : (ji6) < (l0.length : Int)
      ·rw [if_pos c8] at H
       have c8b0 := decide_eq_true c8
       clear c8
       by_cases c9 : 0 ≤ x6_1
       ·rw [if_pos c9] at H
        have c9b0 := decide_eq_true c9
        clear c9
        rcases iE H with H1 | H1 <;> clear H <;> obtain ⟨H, c10b0, c10b1, c10⟩ := H1
        ·have H' := Aside0.mk H
         clear H
         have p219 : 0 ≤ ((ji6) : Int) := dt
         have q219 : (ji6) < (l0.length : Int) := dt
         obtain ⟨ad219, e219, hx219_0⟩ := Kd.at_int HR0.out (ji6) p219 q219
         cases e219
         replace hx219_0 := hcB HB.out hx219_0
         replace p219 := eq_true p219
         replace q219 := eq_true q219
         have p220 : 0 ≤ (x6_1 : Int) := dt
         have q220 : x6_1 < (l0.length : Int) := dt
         obtain ⟨ad220, e220, hx220_0⟩ := Kd.at_int HR0.out x6_1 p220 q220
         obtain rfl : ad219 = ad220 := (by injection e220)
         replace hx220_0 := hcB HB.out hx220_0
         replace p220 := eq_true p220
         replace q220 := eq_true q220
         go_wp2
         go_roundg k1
         case measure => have := HK1.out; omega
         case rel => exact ⟨(wrap64 (x6_1 + 1)), rq, H', ⟨by have := HK1.out; omega⟩, ⟨bl⟩⟩
        ·rcases iE H with H1 | H1 <;> clear H <;> obtain ⟨H, c11b0, c11b1, c11⟩ := H1
         ·obtain ⟨ji12, hji12⟩ : ∃ j_ : Int, (mn x6_1 (l0.length : Int)) = j_ := ⟨_, rfl⟩
          replace H : ((runs_change.f k1 l0 (ji12) a2).bind fun t221 => (some (ji12, t221))) = some (r1, r2) := by first | (rw [hji12] at H; exact H) | (simp only [hji12] at H ⊢; exact H)
          have hji12_ : (if (l0.length : Int) < x6_1 then (l0.length : Int) else x6_1) = ji12 := hji12
          obtain ⟨t221, A13, H⟩ := oB H
          try dsimp only at H
          simp only [Option.some.injEq, Prod.mk.injEq] at H
          obtain ⟨rfl, rfl⟩ := H
          have p219 : 0 ≤ ((ji6) : Int) := dt
          have q219 : (ji6) < (l0.length : Int) := dt
          obtain ⟨ad219, e219, hx219_0⟩ := Kd.at_int HR0.out (ji6) p219 q219
          cases e219
          replace hx219_0 := hcB HB.out hx219_0
          replace p219 := eq_true p219
          replace q219 := eq_true q219
          have p220 : 0 ≤ (x6_1 : Int) := dt
          have q220 : x6_1 < (l0.length : Int) := dt
          obtain ⟨ad220, e220, hx220_0⟩ := Kd.at_int HR0.out x6_1 p220 q220
          obtain rfl : ad219 = ad220 := (by injection e220)
          replace hx220_0 := hcB HB.out hx220_0
          replace p220 := eq_true p220
          replace q220 := eq_true q220
          go_wp2_with (first | ((with_reducible refine gf 41 rfl ?_); refine goesL_ (some 43) rfl rfl Tryd.func41 (by kernel_rfl) rfl #[.slice (some ad219) l0.length c0, .int .i64 ji12, .int .u8 a2] rfl (by (try simp only [List.map_toArray, List.map_cons, List.map_nil]); first | done | (simp only [hji12]; rfl) | rfl | (simp only [List.length_drop, List.length_take]; rfl)) ?_; (with_reducible refine (runs_change.calls k1 _ _ l0 ji12 a2 t221 _ ?side1 ?side2 A13.out).mono ?_); (case side1 => exact cU (Kd.C_below HR0.out HB.out)); (case side2 => exact HC0.out); rintro e w14 ⟨rfl, hb⟩; refine ⟨_, rfl, ?_⟩; have n_ := aE (bs hb); clear HB; have HB := n_; clear n_))
          go_ret2
          exact ⟨by first | rfl | (simp [errW_none, errW_some] <;> rfl) | (simp only [← hji6, ← hji12]; first | rfl | (simp [errW_none, errW_some] <;> rfl)) | (simp [*, errW_none, errW_some] <;> rfl), bl⟩
         ·have H' := Aside0.mk H
          clear H
          have p219 : 0 ≤ ((ji6) : Int) := dt
          have q219 : (ji6) < (l0.length : Int) := dt
          obtain ⟨ad219, e219, hx219_0⟩ := Kd.at_int HR0.out (ji6) p219 q219
          cases e219
          replace hx219_0 := hcB HB.out hx219_0
          replace p219 := eq_true p219
          replace q219 := eq_true q219
          have p220 : 0 ≤ (x6_1 : Int) := dt
          have q220 : x6_1 < (l0.length : Int) := dt
          obtain ⟨ad220, e220, hx220_0⟩ := Kd.at_int HR0.out x6_1 p220 q220
          obtain rfl : ad219 = ad220 := (by injection e220)
          replace hx220_0 := hcB HB.out hx220_0
          replace p220 := eq_true p220
          replace q220 := eq_true q220
          go_wp2
          go_roundg k1
          case measure => have := HK1.out; omega
          case rel => exact ⟨(wrap64 (x6_1 + 1)), rq, H', ⟨by have := HK1.out; omega⟩, ⟨bl⟩⟩
       ·rw [if_neg c9] at H
        exact absurd H (by simp)
      ·rw [if_neg c8] at H
       exact absurd H (by simp)
     ·rw [if_neg c7] at H
      exact absurd H (by simp)
    ·by_cases c15 : 0 ≤ x6_1
     ·rw [if_pos c15] at H
      have c15b0 := decide_eq_true c15
      clear c15
      rcases iE H with H1 | H1 <;> clear H <;> obtain ⟨H, c16b0, c16b1, c16⟩ := H1
      ·have H' := Aside0.mk H
       clear H
       have p222 : 0 ≤ (x6_1 : Int) := dt
       have q222 : x6_1 < (l0.length : Int) := dt
       obtain ⟨ad222, e222, hx222_0⟩ := Kd.at_int HR0.out x6_1 p222 q222
       cases e222
       replace hx222_0 := hcB HB.out hx222_0
       replace p222 := eq_true p222
       replace q222 := eq_true q222
       go_wp2
       go_roundg k1
       case measure => have := HK1.out; omega
       case rel => exact ⟨(wrap64 (x6_1 + 1)), rq, H', ⟨by have := HK1.out; omega⟩, ⟨bl⟩⟩
      ·rcases iE H with H1 | H1 <;> clear H <;> obtain ⟨H, c17b0, c17b1, c17⟩ := H1
       ·obtain ⟨ji18, hji18⟩ : ∃ j_ : Int, (mn x6_1 (l0.length : Int)) = j_ := ⟨_, rfl⟩
        replace H : ((runs_change.f k1 l0 (ji18) a2).bind fun t223 => (some (ji18, t223))) = some (r1, r2) := by first | (rw [hji18] at H; exact H) | (simp only [hji18] at H ⊢; exact H)
        have hji18_ : (if (l0.length : Int) < x6_1 then (l0.length : Int) else x6_1) = ji18 := hji18
        obtain ⟨t223, A19, H⟩ := oB H
        try dsimp only at H
        simp only [Option.some.injEq, Prod.mk.injEq] at H
        obtain ⟨rfl, rfl⟩ := H
        have p222 : 0 ≤ (x6_1 : Int) := dt
        have q222 : x6_1 < (l0.length : Int) := dt
        obtain ⟨ad222, e222, hx222_0⟩ := Kd.at_int HR0.out x6_1 p222 q222
        cases e222
        replace hx222_0 := hcB HB.out hx222_0
        replace p222 := eq_true p222
        replace q222 := eq_true q222
        go_wp2_with (first | ((with_reducible refine gf 41 rfl ?_); refine goesL_ (some 43) rfl rfl Tryd.func41 (by kernel_rfl) rfl #[.slice (some ad222) l0.length c0, .int .i64 ji18, .int .u8 a2] rfl (by (try simp only [List.map_toArray, List.map_cons, List.map_nil]); first | done | (simp only [hji18]; rfl) | rfl | (simp only [List.length_drop, List.length_take]; rfl)) ?_; (with_reducible refine (runs_change.calls k1 _ _ l0 ji18 a2 t223 _ ?side1 ?side2 A19.out).mono ?_); (case side1 => exact cU (Kd.C_below HR0.out HB.out)); (case side2 => exact HC0.out); rintro e w20 ⟨rfl, hb⟩; refine ⟨_, rfl, ?_⟩; have n_ := aE (bs hb); clear HB; have HB := n_; clear n_))
        go_ret2
        exact ⟨by first | rfl | (simp [errW_none, errW_some] <;> rfl) | (simp only [← hji18]; first | rfl | (simp [errW_none, errW_some] <;> rfl)) | (simp [*, errW_none, errW_some] <;> rfl), bl⟩
       ·have H' := Aside0.mk H
        clear H
        have p222 : 0 ≤ (x6_1 : Int) := dt
        have q222 : x6_1 < (l0.length : Int) := dt
        obtain ⟨ad222, e222, hx222_0⟩ := Kd.at_int HR0.out x6_1 p222 q222
        cases e222
        replace hx222_0 := hcB HB.out hx222_0
        replace p222 := eq_true p222
        replace q222 := eq_true q222
        go_wp2
        go_roundg k1
        case measure => have := HK1.out; omega
        case rel => exact ⟨(wrap64 (x6_1 + 1)), rq, H', ⟨by have := HK1.out; omega⟩, ⟨bl⟩⟩
     ·rw [if_neg c15] at H
      exact absurd H (by simp)
   ·obtain ⟨ji21, hji21⟩ : ∃ j_ : Int, (mn x6_1 (l0.length : Int)) = j_ := ⟨_, rfl⟩
    replace H : ((runs_change.f k1 l0 (ji21) a2).bind fun t218 => (some (ji21, t218))) = some (r1, r2) := by first | (rw [hji21] at H; exact H) | (simp only [hji21] at H ⊢; exact H)
    have hji21_ : (if (l0.length : Int) < x6_1 then (l0.length : Int) else x6_1) = ji21 := hji21
    obtain ⟨t218, A22, H⟩ := oB H
    try dsimp only at H
    simp only [Option.some.injEq, Prod.mk.injEq] at H
    obtain ⟨rfl, rfl⟩ := H
    go_wp2_with (first | ((with_reducible refine gf 41 rfl ?_); refine goesL_ (some 43) rfl rfl Tryd.func41 (by kernel_rfl) rfl #[.slice A0 l0.length c0, .int .i64 ji21, .int .u8 a2] rfl (by (try simp only [List.map_toArray, List.map_cons, List.map_nil]); first | done | (simp only [hji21]; rfl) | rfl | (simp only [List.length_drop, List.length_take]; rfl)) ?_; (with_reducible refine (runs_change.calls k1 _ _ l0 ji21 a2 t218 _ ?side1 ?side2 A22.out).mono ?_); (case side1 => exact cU (Kd.C_below HR0.out HB.out)); (case side2 => exact HC0.out); rintro e w23 ⟨rfl, hb⟩; refine ⟨_, rfl, ?_⟩; have n_ := aE (bs hb); clear HB; have HB := n_; clear n_))
    go_ret2
    exact ⟨by first | rfl | (simp [errW_none, errW_some] <;> rfl) | (simp only [← hji21]; first | rfl | (simp [errW_none, errW_some] <;> rfl)) | (simp [*, errW_none, errW_some] <;> rfl), bl⟩
mutual
def runs_modes.l0 : Nat → List Int → List Int → List (S56) → Int → Int → Int → Option ((List (S56)))
 | 0, _, _, _, _, _, _ => none
 | k + 1, x0, x1, x5, x6, x7, x8 => if x6 < x8 then (runs_modes.j1 k x0 x1 x5 x6 x7 x8 (decide (x8 > 0))) else (runs_modes.j1 k x0 x1 x5 x6 x7 x8 false)
def runs_modes.j1 : Nat → List Int → List Int → List (S56) → Int → Int → Int → Bool → Option ((List (S56)))
 | 0, _, _, _, _, _, _, _ => none
 | k + 1, x0, x1, x5, x6, x7, x8, x21 => if x21 = true then ((runs_marks.f k x0 x6 x7).bind fun bt224 => ((runs_change.f k x1 x6 ((1 - x7) % 256)).bind fun t226 => (if bt224.2 < t226 then (if x5.length < 2932031007402 then (runs_modes.l0 k x0 x1 (x5 ++ [(⟨(⟨#[112, 97, 115, 115]⟩ : ByteArray), 0, (⟨0, 0⟩ : S54), 0⟩ : S56)]) bt224.2 x7 x8) else (none)) else (if (wrap64 (t226 - bt224.1)) ≥ (-3) then (if (wrap64 (t226 - bt224.1)) ≤ 3 then (if x5.length < 2932031007402 then (runs_modes.l0 k x0 x1 (x5 ++ [(⟨(⟨#[117, 112]⟩ : ByteArray), wrap64 (t226 - bt224.1), (⟨0, 0⟩ : S54), 0⟩ : S56)]) t226 ((1 - x7) % 256) x8) else (none)) else ((runs_change.f k x1 t226 x7).bind fun t233 => (if x5.length < 2932031007402 then (runs_modes.l0 k x0 x1 (x5 ++ [(⟨(⟨#[102, 108, 97, 116]⟩ : ByteArray), 0, (⟨wrap64 (t226 - (mx x6 0)), wrap64 (t233 - t226)⟩ : S54), wrap64 (x7)⟩ : S56)]) t233 x7 x8) else (none)))) else ((runs_change.f k x1 t226 x7).bind fun t237 => (if x5.length < 2932031007402 then (runs_modes.l0 k x0 x1 (x5 ++ [(⟨(⟨#[102, 108, 97, 116]⟩ : ByteArray), 0, (⟨wrap64 (t226 - (mx x6 0)), wrap64 (t237 - t226)⟩ : S54), wrap64 (x7)⟩ : S56)]) t237 x7 x8) else (none))))))) else (some x5)
end
def runs_modes.f (k : Nat) (l0 : List Int) (l1 : List Int) : Option ((List (S56))) := runs_modes.l0 k l0 l1 ([] : List (S56)) (-1) 0 (l1.length : Int)
theorem runs_modes.mono_l : ∀ k, (∀ y0 y1 y2 y3 y4 y5, LeO (runs_modes.l0 k y0 y1 y2 y3 y4 y5) (runs_modes.l0 (k + 1) y0 y1 y2 y3 y4 y5)) ∧ (∀ y0 y1 y2 y3 y4 y5 y6, LeO (runs_modes.j1 k y0 y1 y2 y3 y4 y5 y6) (runs_modes.j1 (k + 1) y0 y1 y2 y3 y4 y5 y6))
 | 0 => ⟨fun _ _ _ _ _ _ r h => by simp [runs_modes.l0] at h, fun _ _ _ _ _ _ _ r h => by simp [runs_modes.j1] at h⟩
 | k + 1 => by
  obtain ⟨ih0, ih1⟩ := runs_modes.mono_l k
  refine ⟨?_, ?_⟩
  ·intro y0 y1 y2 y3 y4 y5
   unfold runs_modes.l0
   repeat' first
   | (with_reducible exact ih0 _ _ _ _ _ _)
   | (with_reducible exact ih1 _ _ _ _ _ _ _)
   | (with_reducible exact runs_change.mono _ _ _ _)
   | (with_reducible exact runs_marks.mono _ _ _ _)
   | (with_reducible first | exact LeO.refl _ | exact LeO.none _ | refine LeO.ite ?_ ?_ | refine LeO.bind ?_ (fun _ => ?_))
  ·intro y0 y1 y2 y3 y4 y5 y6
   unfold runs_modes.j1
   repeat' first
   | (with_reducible exact ih0 _ _ _ _ _ _)
   | (with_reducible exact ih1 _ _ _ _ _ _ _)
   | (with_reducible exact runs_change.mono _ _ _ _)
   | (with_reducible exact runs_marks.mono _ _ _ _)
   | (with_reducible first | exact LeO.refl _ | exact LeO.none _ | refine LeO.ite ?_ ?_ | refine LeO.bind ?_ (fun _ => ?_))
theorem runs_modes.mono : ∀ a0 a1 k, LeO (runs_modes.f k a0 a1) (runs_modes.f (k + 1) a0 a1) := by
 intro a0 a1 k
 obtain ⟨ih0, ih1⟩ := runs_modes.mono_l k
 unfold runs_modes.f
 repeat' first
   | (with_reducible exact ih0 _ _ _ _ _ _)
   | (with_reducible exact ih1 _ _ _ _ _ _ _)
   | (with_reducible exact runs_change.mono _ _ _ _)
   | (with_reducible exact runs_marks.mono _ _ _ _)
   | (with_reducible first | exact LeO.refl _ | exact LeO.none _ | refine LeO.ite ?_ ?_ | refine LeO.bind ?_ (fun _ => ?_))
set_option maxHeartbeats 8000000 in
set_option maxRecDepth 100000 in
theorem runs_modes.calls (k : Nat) (A0 : Option Addr) (c0 : Nat) (l0 : List Int) (A1 : Option Addr) (c1 : Nat) (l1 : List Int) (r : List (S56)) (w : World) (hr0 : Kd.C (Kd.int .u8) w A0 l0.length l0) (hc0 : l0.length ≤ c0) (hr1 : Kd.C (Kd.int .u8) w A1 l1.length l1) (hc1 : l1.length ≤ c1) (h : runs_modes.f k l0 l1 = some r) :
  Calls Tryd.prog 25 #[.slice A0 l0.length c0, .slice A1 l1.length c1] w fun e w' => ∃ v0_ : Value, e = .returned (v0_) ∧ Kd.R k56 56 w' w.heap.size (fun _ => True) v0_ r ∧ Below w.heap.size w w' := by
 have hu56 := Tryd.underlying56
 have hu54 := Tryd.underlying54
 have HR0 := Aside0.mk hr0
 have HC0 := Aside0.mk hc0
 clear hr0 hc0
 have HR1 := Aside0.mk hr1
 have HC1 := Aside0.mk hc1
 clear hr1 hc1
 have HB := Aside0.mk (Below.refl w.heap.size w)
 have H : (runs_modes.l0 k l0 l1 ([] : List (S56)) (-1) 0 (l1.length : Int)) = some r := h
 clear h
 have H' := Aside0.mk H
 clear H
 go_enter Tryd.func25, Tryd.ntmps25
 go_wp2
 go_loopg [5, 6, 7] k (fun kq v5 v6 v7 w' => ∃ (x5_1 : List (S56)) (x6_1 : Int) (x7_1 : Int), v6 = .int .i64 x6_1 ∧ v7 = .int .u8 x7_1 ∧ Aside0 (runs_modes.l0 kq l0 l1 x5_1 x6_1 x7_1 (l1.length : Int) = some r) ∧ Aside0 (kq ≤ k) ∧ Aside0 (Kd.R k56 56 w' w.heap.size (fun _ => True) v5 x5_1) ∧ Aside0 (Below w.heap.size w w'))
 case atStart => exact ⟨(([] : List (S56))), ((-1)), (0), rq, rq, H', ⟨Nat.le_refl _⟩, ⟨by first | exact Kd.R_nil _ _ _ _ _ | exact Kd.N_nil _ _ _ _ _ | exact Kd.V_nil _ _ _ _ _ | exact Kd.Q_nil _ _ _ _ _ | exact Kd.S_nil _ _ _ _ _⟩, ⟨bl⟩⟩
 case round =>
  clear H'
  try clear c1
  obtain ⟨x5_1, x6_1, x7_1, rfl, rfl, HA, HK1, HO_5, HB⟩ := hrel
  cases gk with
  | zero => exact absurd HA.out (by simp [runs_modes.l0])
  | succ k1 =>
   have H := HA.out
   clear HA
   simp only [runs_modes.l0] at H
   have HC3 := Aside0.mk H
   clear H
   go_upto_region 4 with (fail)
   go_cut [21] (fun v21 wc => ∃ (kq : Nat) (x21_2 : Bool), v21 = .bool x21_2 ∧ Aside0 (runs_modes.j1 kq l0 l1 x5_1 x6_1 x7_1 (l1.length : Int) x21_2 = some r) ∧ Aside0 (kq ≤ k1) ∧ Aside0 (Kd.R k56 56 wc w.heap.size (fun _ => True) u5 x5_1) ∧ Aside0 (Below w.heap.size w wc))
   case first =>
    have H := HC3.out
    clear HC3
    rcases iL H with H1 | H1 <;> clear H <;> obtain ⟨H, c4b0⟩ := H1
    ·(first | rw [c4b0] | (simp only [i64_w, i32_w]; rw [c4b0]) | skip)
     have H' := Aside0.mk H
     clear H
     go_wp2
     go_meet
     case rel => exact ⟨_, (decide ((l1.length : Int) > 0)), rq, H', ⟨by have := HK1.out; first | omega | exact Nat.le_refl _⟩, ⟨rU HO_5.out⟩, ⟨bl⟩⟩
    ·(first | rw [c4b0] | (simp only [i64_w, i32_w]; rw [c4b0]) | skip)
     have H' := Aside0.mk H
     clear H
     go_wp2
     go_meet
     case rel => exact ⟨_, (false), rq, H', ⟨by have := HK1.out; first | omega | exact Nat.le_refl _⟩, ⟨rU HO_5.out⟩, ⟨bl⟩⟩
   case rest =>
    clear HC3
    try clear c1
    obtain ⟨kq, x21_2, rfl, HA, HJ2, HO_5, HB⟩ := hcut
    cases kq with
    | zero => exact absurd HA.out (by simp [runs_modes.j1])
    | succ kj2 =>
     have H := HA.out
     clear HA
     simp only [runs_modes.j1] at H
     by_cases c5 : x21_2 = true
     ·subst c5
      rw [if_pos rfl] at H
      obtain ⟨⟨t224, t225⟩, A6, H⟩ := oB H
      try dsimp only at H
      obtain ⟨t226, A7, H⟩ := oB H
      try dsimp only at H
      rcases iL H with H1 | H1 <;> clear H <;> obtain ⟨H, c8b0⟩ := H1
      ·by_cases c9 : x5_1.length < 2932031007402
       ·rw [if_pos c9] at H
        have LMc9 := Aside0.mk c9
        clear c9
        obtain ⟨y227, hy_⟩ : ∃ y_ : List (S56), y_ = (x5_1 ++ [(⟨(⟨#[112, 97, 115, 115]⟩ : ByteArray), 0, (⟨0, 0⟩ : S54), 0⟩ : S56)]) := ⟨_, rfl⟩
        replace H : (runs_modes.l0 kj2 l0 l1 y227 t225 x7_1 (l1.length : Int)) = some r := rh
        have Ny227 := aE hy_
        clear hy_
        have H' := Aside0.mk H
        clear H
        go_wp2_with (first | (refine gF 40 26 Tryd.func40 #[.slice A0 l0.length c0, .int .i64 x6_1, .int .u8 x7_1] rfl rfl ?_; (with_reducible refine (runs_marks.calls kj2 _ _ l0 x6_1 x7_1 t224 t225 _ ?side1 ?side2 A6.out).mono ?_); (case side1 => exact cU (Kd.C_below HR0.out HB.out)); (case side2 => exact HC0.out); rintro e w10 ⟨rfl, hb⟩; refine ⟨_, rfl, ?_⟩; have n_ := aC (Kd.R_below (rU HO_5.out) hb) (aE (bs hb)); clear HO_5 HB; obtain ⟨HO_5, HB⟩ := n_) | (refine gF 41 33 Tryd.func41 #[.slice A1 l1.length c1, .int .i64 x6_1, .int .u8 ((1 - x7_1) % 256)] rfl rfl ?_; (with_reducible refine (runs_change.calls kj2 _ _ l1 x6_1 ((1 - x7_1) % 256) t226 _ ?side1 ?side2 A7.out).mono ?_); (case side1 => exact cU (Kd.C_below HR1.out HB.out)); (case side2 => exact HC1.out); rintro e w11 ⟨rfl, hb⟩; refine ⟨_, rfl, ?_⟩; have n_ := aC (Kd.R_below (rU HO_5.out) hb) (aE (bs hb)); clear HO_5 HB; obtain ⟨HO_5, HB⟩ := n_) | ((with_reducible refine gate_builtin (b := .append) (xs := #[.tmp 57, .tmp 59]) rfl ?_); at_builtin; refine Kd.R_append k56 (w0 := w) w.heap.size rfl (.tmp 57) (.tmp 59) 52 56 (.agg #[(.string ⟨#[]⟩), (.int .i64 0), (.int .i64 0), (.int .i64 0), (.int .i64 0)]) 48 rfl Tryd.underlying52 info56 rfl (by decide) (by omega) u5 x5_1 (⟨(⟨#[112, 97, 115, 115]⟩ : ByteArray), 0, (⟨0, 0⟩ : S54), 0⟩ : S56) [.string (⟨#[112, 97, 115, 115]⟩ : ByteArray), .int .i64 0, .int .i64 0, .int .i64 0, .int .i64 0] (fun _ => True) (fun _ => False) rfl rfl ?aP (fun _ hk => hk.elim) ?aF ?aO ?aB ?aS ?aL ?_; (case aP => exact k56_mkM _ _ _ (⟨(⟨#[112, 97, 115, 115]⟩ : ByteArray), 0, (⟨0, 0⟩ : S54), 0⟩ : S56)); (case aB => exact bl); (case aF => exact (fun _ _ => trivial)); (case aO => exact (rU HO_5.out)); (case aS => exact bz); (case aL => have := LMc9.out; omega); intro v228 w12 ho hb hg hat; rw [← Ny227.out] at ho; have n_ := aC hb (aE ho); clear HB HO_5; obtain ⟨HB, HO229⟩ := n_; clear ho hb hg hat))
        go_roundg kj2
        case measure => have := HK1.out; have := HJ2.out; omega
        case rel => exact ⟨(y227), (t225), (x7_1), rq, rq, H', ⟨by have := HK1.out; have := HJ2.out; omega⟩, ⟨rU HO229.out⟩, ⟨bl⟩⟩
       ·rw [if_neg c9] at H
        exact absurd H (by simp)
      ·rcases iL H with H1 | H1 <;> clear H <;> obtain ⟨H, c13b0⟩ := H1
       ·rcases iL H with H1 | H1 <;> clear H <;> obtain ⟨H, c14b0⟩ := H1
        ·by_cases c15 : x5_1.length < 2932031007402
         ·rw [if_pos c15] at H
          have LMc15 := Aside0.mk c15
          clear c15
          obtain ⟨y230, hy_⟩ : ∃ y_ : List (S56), y_ = (x5_1 ++ [(⟨(⟨#[117, 112]⟩ : ByteArray), wrap64 (t226 - t224), (⟨0, 0⟩ : S54), 0⟩ : S56)]) := ⟨_, rfl⟩
          replace H : (runs_modes.l0 kj2 l0 l1 y230 t226 ((1 - x7_1) % 256) (l1.length : Int)) = some r := rh
          have Ny230 := aE hy_
          clear hy_
          have H' := Aside0.mk H
          clear H
          go_wp2_with (first | (refine gF 40 26 Tryd.func40 #[.slice A0 l0.length c0, .int .i64 x6_1, .int .u8 x7_1] rfl rfl ?_; (with_reducible refine (runs_marks.calls kj2 _ _ l0 x6_1 x7_1 t224 t225 _ ?side1 ?side2 A6.out).mono ?_); (case side1 => exact cU (Kd.C_below HR0.out HB.out)); (case side2 => exact HC0.out); rintro e w16 ⟨rfl, hb⟩; refine ⟨_, rfl, ?_⟩; have n_ := aC (Kd.R_below (rU HO_5.out) hb) (aE (bs hb)); clear HO_5 HB; obtain ⟨HO_5, HB⟩ := n_) | (refine gF 41 33 Tryd.func41 #[.slice A1 l1.length c1, .int .i64 x6_1, .int .u8 ((1 - x7_1) % 256)] rfl rfl ?_; (with_reducible refine (runs_change.calls kj2 _ _ l1 x6_1 ((1 - x7_1) % 256) t226 _ ?side1 ?side2 A7.out).mono ?_); (case side1 => exact cU (Kd.C_below HR1.out HB.out)); (case side2 => exact HC1.out); rintro e w17 ⟨rfl, hb⟩; refine ⟨_, rfl, ?_⟩; have n_ := aC (Kd.R_below (rU HO_5.out) hb) (aE (bs hb)); clear HO_5 HB; obtain ⟨HO_5, HB⟩ := n_) | ((with_reducible refine gate_builtin (b := .append) (xs := #[.tmp 73, .tmp 78]) rfl ?_); at_builtin; refine Kd.R_append k56 (w0 := w) w.heap.size rfl (.tmp 73) (.tmp 78) 52 56 (.agg #[(.string ⟨#[]⟩), (.int .i64 0), (.int .i64 0), (.int .i64 0), (.int .i64 0)]) 48 rfl Tryd.underlying52 info56 rfl (by decide) (by omega) u5 x5_1 (⟨(⟨#[117, 112]⟩ : ByteArray), wrap64 (t226 - t224), (⟨0, 0⟩ : S54), 0⟩ : S56) [.string (⟨#[117, 112]⟩ : ByteArray), .int .i64 (wrap64 (t226 - t224)), .int .i64 0, .int .i64 0, .int .i64 0] (fun _ => True) (fun _ => False) rfl rfl ?aP (fun _ hk => hk.elim) ?aF ?aO ?aB ?aS ?aL ?_; (case aP => exact k56_mkM _ _ _ (⟨(⟨#[117, 112]⟩ : ByteArray), wrap64 (t226 - t224), (⟨0, 0⟩ : S54), 0⟩ : S56)); (case aB => exact bl); (case aF => exact (fun _ _ => trivial)); (case aO => exact (rU HO_5.out)); (case aS => exact bz); (case aL => have := LMc15.out; omega); intro v231 w18 ho hb hg hat; rw [← Ny230.out] at ho; have n_ := aC hb (aE ho); clear HB HO_5; obtain ⟨HB, HO232⟩ := n_; clear ho hb hg hat))
          go_roundg kj2
          case measure => have := HK1.out; have := HJ2.out; omega
          case rel => exact ⟨(y230), (t226), ((1 - x7_1) % 256), rq, rq, H', ⟨by have := HK1.out; have := HJ2.out; omega⟩, ⟨rU HO232.out⟩, ⟨bl⟩⟩
         ·rw [if_neg c15] at H
          exact absurd H (by simp)
        ·obtain ⟨t233, A19, H⟩ := oB H
         try dsimp only at H
         obtain ⟨ji20, hji20⟩ : ∃ j_ : Int, (mx x6_1 0) = j_ := ⟨_, rfl⟩
         replace H : (if x5_1.length < 2932031007402 then (runs_modes.l0 kj2 l0 l1 (x5_1 ++ [(⟨(⟨#[102, 108, 97, 116]⟩ : ByteArray), 0, (⟨wrap64 (t226 - (ji20)), wrap64 (t233 - t226)⟩ : S54), wrap64 (x7_1)⟩ : S56)]) t233 x7_1 (l1.length : Int)) else (none)) = some r := by first | (rw [hji20] at H; exact H) | (simp only [hji20] at H ⊢; exact H)
         (try rw [hji20] at A6)
         (try rw [hji20] at A7)
         (try rw [hji20] at A19)
         have hji20_ : (if x6_1 < 0 then 0 else x6_1) = ji20 := hji20
         by_cases c21 : x5_1.length < 2932031007402
         ·rw [if_pos c21] at H
          have LMc21 := Aside0.mk c21
          clear c21
          obtain ⟨y234, hy_⟩ : ∃ y_ : List (S56), y_ = (x5_1 ++ [(⟨(⟨#[102, 108, 97, 116]⟩ : ByteArray), 0, (⟨wrap64 (t226 - (ji20)), wrap64 (t233 - t226)⟩ : S54), wrap64 (x7_1)⟩ : S56)]) := ⟨_, rfl⟩
          replace H : (runs_modes.l0 kj2 l0 l1 y234 t233 x7_1 (l1.length : Int)) = some r := rh
          have Ny234 := aE hy_
          clear hy_
          have H' := Aside0.mk H
          clear H
          go_wp2_with (first | (refine gF 40 26 Tryd.func40 #[.slice A0 l0.length c0, .int .i64 x6_1, .int .u8 x7_1] rfl rfl ?_; (with_reducible refine (runs_marks.calls kj2 _ _ l0 x6_1 x7_1 t224 t225 _ ?side1 ?side2 A6.out).mono ?_); (case side1 => exact cU (Kd.C_below HR0.out HB.out)); (case side2 => exact HC0.out); rintro e w22 ⟨rfl, hb⟩; refine ⟨_, rfl, ?_⟩; have n_ := aC (Kd.R_below (rU HO_5.out) hb) (aE (bs hb)); clear HO_5 HB; obtain ⟨HO_5, HB⟩ := n_) | (refine gF 41 33 Tryd.func41 #[.slice A1 l1.length c1, .int .i64 x6_1, .int .u8 ((1 - x7_1) % 256)] rfl rfl ?_; (with_reducible refine (runs_change.calls kj2 _ _ l1 x6_1 ((1 - x7_1) % 256) t226 _ ?side1 ?side2 A7.out).mono ?_); (case side1 => exact cU (Kd.C_below HR1.out HB.out)); (case side2 => exact HC1.out); rintro e w23 ⟨rfl, hb⟩; refine ⟨_, rfl, ?_⟩; have n_ := aC (Kd.R_below (rU HO_5.out) hb) (aE (bs hb)); clear HO_5 HB; obtain ⟨HO_5, HB⟩ := n_) | (refine gF 41 37 Tryd.func41 #[.slice A1 l1.length c1, .int .i64 t226, .int .u8 x7_1] rfl rfl ?_; (with_reducible refine (runs_change.calls kj2 _ _ l1 t226 x7_1 t233 _ ?side1 ?side2 A19.out).mono ?_); (case side1 => exact cU (Kd.C_below HR1.out HB.out)); (case side2 => exact HC1.out); rintro e w24 ⟨rfl, hb⟩; refine ⟨_, rfl, ?_⟩; have n_ := aC (Kd.R_below (rU HO_5.out) hb) (aE (bs hb)); clear HO_5 HB; obtain ⟨HO_5, HB⟩ := n_) | ((with_reducible refine gate_builtin (b := .append) (xs := #[.tmp 38, .tmp 50]) rfl ?_); at_builtin; refine Kd.R_append k56 (w0 := w) w.heap.size rfl (.tmp 38) (.tmp 50) 52 56 (.agg #[(.string ⟨#[]⟩), (.int .i64 0), (.int .i64 0), (.int .i64 0), (.int .i64 0)]) 48 rfl Tryd.underlying52 info56 rfl (by decide) (by omega) u5 x5_1 (⟨(⟨#[102, 108, 97, 116]⟩ : ByteArray), 0, (⟨wrap64 (t226 - (ji20)), wrap64 (t233 - t226)⟩ : S54), wrap64 (x7_1)⟩ : S56) [.string (⟨#[102, 108, 97, 116]⟩ : ByteArray), .int .i64 0, .int .i64 (wrap64 (t226 - (ji20))), .int .i64 (wrap64 (t233 - t226)), .int .i64 (wrap64 (x7_1))] (fun _ => True) (fun _ => False) rfl rfl ?aP (fun _ hk => hk.elim) ?aF ?aO ?aB ?aS ?aL ?_; (case aP => exact k56_mkM _ _ _ (⟨(⟨#[102, 108, 97, 116]⟩ : ByteArray), 0, (⟨wrap64 (t226 - (ji20)), wrap64 (t233 - t226)⟩ : S54), wrap64 (x7_1)⟩ : S56)); (case aB => exact bl); (case aF => exact (fun _ _ => trivial)); (case aO => exact (rU HO_5.out)); (case aS => exact bz); (case aL => have := LMc21.out; omega); intro v235 w25 ho hb hg hat; rw [← Ny234.out] at ho; have n_ := aC hb (aE ho); clear HB HO_5; obtain ⟨HB, HO236⟩ := n_; clear ho hb hg hat))
          go_roundg kj2
          case measure => have := HK1.out; have := HJ2.out; omega
          case rel => exact ⟨(y234), (t233), (x7_1), rq, rq, H', ⟨by have := HK1.out; have := HJ2.out; omega⟩, ⟨rU HO236.out⟩, ⟨bl⟩⟩
         ·rw [if_neg c21] at H
          exact absurd H (by simp)
       ·obtain ⟨t237, A26, H⟩ := oB H
        try dsimp only at H
        obtain ⟨ji27, hji27⟩ : ∃ j_ : Int, (mx x6_1 0) = j_ := ⟨_, rfl⟩
        replace H : (if x5_1.length < 2932031007402 then (runs_modes.l0 kj2 l0 l1 (x5_1 ++ [(⟨(⟨#[102, 108, 97, 116]⟩ : ByteArray), 0, (⟨wrap64 (t226 - (ji27)), wrap64 (t237 - t226)⟩ : S54), wrap64 (x7_1)⟩ : S56)]) t237 x7_1 (l1.length : Int)) else (none)) = some r := by first | (rw [hji27] at H; exact H) | (simp only [hji27] at H ⊢; exact H)
        (try rw [hji27] at A6)
        (try rw [hji27] at A7)
        (try rw [hji27] at A26)
        have hji27_ : (if x6_1 < 0 then 0 else x6_1) = ji27 := hji27
        by_cases c28 : x5_1.length < 2932031007402
        ·rw [if_pos c28] at H
         have LMc28 := Aside0.mk c28
         clear c28
         obtain ⟨y238, hy_⟩ : ∃ y_ : List (S56), y_ = (x5_1 ++ [(⟨(⟨#[102, 108, 97, 116]⟩ : ByteArray), 0, (⟨wrap64 (t226 - (ji27)), wrap64 (t237 - t226)⟩ : S54), wrap64 (x7_1)⟩ : S56)]) := ⟨_, rfl⟩
         replace H : (runs_modes.l0 kj2 l0 l1 y238 t237 x7_1 (l1.length : Int)) = some r := rh
         have Ny238 := aE hy_
         clear hy_
         have H' := Aside0.mk H
         clear H
         go_wp2_with (first | (refine gF 40 26 Tryd.func40 #[.slice A0 l0.length c0, .int .i64 x6_1, .int .u8 x7_1] rfl rfl ?_; (with_reducible refine (runs_marks.calls kj2 _ _ l0 x6_1 x7_1 t224 t225 _ ?side1 ?side2 A6.out).mono ?_); (case side1 => exact cU (Kd.C_below HR0.out HB.out)); (case side2 => exact HC0.out); rintro e w29 ⟨rfl, hb⟩; refine ⟨_, rfl, ?_⟩; have n_ := aC (Kd.R_below (rU HO_5.out) hb) (aE (bs hb)); clear HO_5 HB; obtain ⟨HO_5, HB⟩ := n_) | (refine gF 41 33 Tryd.func41 #[.slice A1 l1.length c1, .int .i64 x6_1, .int .u8 ((1 - x7_1) % 256)] rfl rfl ?_; (with_reducible refine (runs_change.calls kj2 _ _ l1 x6_1 ((1 - x7_1) % 256) t226 _ ?side1 ?side2 A7.out).mono ?_); (case side1 => exact cU (Kd.C_below HR1.out HB.out)); (case side2 => exact HC1.out); rintro e w30 ⟨rfl, hb⟩; refine ⟨_, rfl, ?_⟩; have n_ := aC (Kd.R_below (rU HO_5.out) hb) (aE (bs hb)); clear HO_5 HB; obtain ⟨HO_5, HB⟩ := n_) | (refine gF 41 37 Tryd.func41 #[.slice A1 l1.length c1, .int .i64 t226, .int .u8 x7_1] rfl rfl ?_; (with_reducible refine (runs_change.calls kj2 _ _ l1 t226 x7_1 t237 _ ?side1 ?side2 A26.out).mono ?_); (case side1 => exact cU (Kd.C_below HR1.out HB.out)); (case side2 => exact HC1.out); rintro e w31 ⟨rfl, hb⟩; refine ⟨_, rfl, ?_⟩; have n_ := aC (Kd.R_below (rU HO_5.out) hb) (aE (bs hb)); clear HO_5 HB; obtain ⟨HO_5, HB⟩ := n_) | ((with_reducible refine gate_builtin (b := .append) (xs := #[.tmp 38, .tmp 50]) rfl ?_); at_builtin; refine Kd.R_append k56 (w0 := w) w.heap.size rfl (.tmp 38) (.tmp 50) 52 56 (.agg #[(.string ⟨#[]⟩), (.int .i64 0), (.int .i64 0), (.int .i64 0), (.int .i64 0)]) 48 rfl Tryd.underlying52 info56 rfl (by decide) (by omega) u5 x5_1 (⟨(⟨#[102, 108, 97, 116]⟩ : ByteArray), 0, (⟨wrap64 (t226 - (ji27)), wrap64 (t237 - t226)⟩ : S54), wrap64 (x7_1)⟩ : S56) [.string (⟨#[102, 108, 97, 116]⟩ : ByteArray), .int .i64 0, .int .i64 (wrap64 (t226 - (ji27))), .int .i64 (wrap64 (t237 - t226)), .int .i64 (wrap64 (x7_1))] (fun _ => True) (fun _ => False) rfl rfl ?aP (fun _ hk => hk.elim) ?aF ?aO ?aB ?aS ?aL ?_; (case aP => exact k56_mkM _ _ _ (⟨(⟨#[102, 108, 97, 116]⟩ : ByteArray), 0, (⟨wrap64 (t226 - (ji27)), wrap64 (t237 - t226)⟩ : S54), wrap64 (x7_1)⟩ : S56)); (case aB => exact bl); (case aF => exact (fun _ _ => trivial)); (case aO => exact (rU HO_5.out)); (case aS => exact bz); (case aL => have := LMc28.out; omega); intro v239 w32 ho hb hg hat; rw [← Ny238.out] at ho; have n_ := aC hb (aE ho); clear HB HO_5; obtain ⟨HB, HO240⟩ := n_; clear ho hb hg hat))
         go_roundg kj2
         case measure => have := HK1.out; have := HJ2.out; omega
         case rel => exact ⟨(y238), (t237), (x7_1), rq, rq, H', ⟨by have := HK1.out; have := HJ2.out; omega⟩, ⟨rU HO240.out⟩, ⟨bl⟩⟩
        ·rw [if_neg c28] at H
         exact absurd H (by simp)
     ·replace c5 := Bool.eq_false_iff.mpr c5
      subst c5
      rw [if_neg Bool.false_ne_true] at H
      obtain rfl := Option.some.inj H
      go_wp2
      go_ret
      exact ⟨_, re, rU HO_5.out, bl⟩
def strconv_Itoa_33.f (a0 : Int) : Option ByteArray := if -9223372036854775808 ≤ a0 then (if a0 ≤ 9223372036854775807 then some ⟨(itz a0).toArray⟩ else none) else none
theorem strconv_Itoa_33.calls (a0 : Int) (r : ByteArray) (w : World) (hT0 : TIs w) (h : strconv_Itoa_33.f a0 = some r) :
  Calls Tryd.prog 33 #[.int .i64 a0] w fun e w' => e = .returned (.string r) ∧ Below w.heap.size w w' := by
 unfold strconv_Itoa_33.f at h
 split at h
 ·next h0 =>
  split at h
  ·next h1 =>
   obtain rfl := Option.some.inj h
   rw [itz_eq]
   exact itoa_calls a0 h0 h1 w hT0
  ·cases h
 ·cases h
mutual
def runs_Modes.j0 : Nat → List Int → List Int → Bool → Option (List ByteArray × Int)
 | 0, _, _, _ => none
 | k + 1, x0, x1, x24 => if x24 = true then (some (([] : List ByteArray), 2)) else ((runs_modes.f k x0 x1).bind fun t243 => (runs_Modes.l0 k ([] : List ByteArray) t243 (t243.length : Int) 0))
def runs_Modes.l0 : Nat → List ByteArray → List (S56) → Int → Int → Option (List ByteArray × Int)
 | 0, _, _, _, _ => none
 | k + 1, x6, x27, x28, x29 => if x29 < x28 then (if 0 ≤ x29 then (if x29 < (x27.length : Int) then (if ((rd_T56 x27 x29).f0).toList = ([117, 112] : List UInt8) then ((strconv_Itoa_33.f ((rd_T56 x27 x29).f1)).bind fun t248 => (if ((rd_T56 x27 x29).f0).size + t248.size ≤ 9223372036854775807 then (if x6.length < 8796093022208 then (runs_Modes.l0 k (x6 ++ [((rd_T56 x27 x29).f0) ++ t248]) x27 x28 (wrap64 (x29 + 1))) else (none)) else (none))) else (if x6.length < 8796093022208 then (runs_Modes.l0 k (x6 ++ [(rd_T56 x27 x29).f0]) x27 x28 (wrap64 (x29 + 1))) else (none))) else (none)) else (none)) else (some (x6, 0))
end
def runs_Modes.f (k : Nat) (l0 : List Int) (l1 : List Int) : Option (List ByteArray × Int) := (runs_isRow.f k l0).bind fun t241 => (if t241 = true then ((runs_isRow.f k l1).bind fun t242 => (if t242 = true then (runs_Modes.j0 k l0 l1 ((l0.length : Int) != (l1.length : Int))) else (runs_Modes.j0 k l0 l1 true))) else (runs_Modes.j0 k l0 l1 true))
theorem runs_Modes.mono_l : ∀ k, (∀ y0 y1 y2, LeO (runs_Modes.j0 k y0 y1 y2) (runs_Modes.j0 (k + 1) y0 y1 y2)) ∧ (∀ y0 y1 y2 y3, LeO (runs_Modes.l0 k y0 y1 y2 y3) (runs_Modes.l0 (k + 1) y0 y1 y2 y3))
 | 0 => ⟨fun _ _ _ r h => by simp [runs_Modes.j0] at h, fun _ _ _ _ r h => by simp [runs_Modes.l0] at h⟩
 | k + 1 => by
  obtain ⟨ih0, ih1⟩ := runs_Modes.mono_l k
  refine ⟨?_, ?_⟩
  ·intro y0 y1 y2
   unfold runs_Modes.j0
   repeat' first
   | (with_reducible exact ih0 _ _ _)
   | (with_reducible exact ih1 _ _ _ _)
   | (with_reducible exact runs_isRow.mono _ _)
   | (with_reducible exact runs_modes.mono _ _ _)
   | (with_reducible first | exact LeO.refl _ | exact LeO.none _ | refine LeO.ite ?_ ?_ | refine LeO.bind ?_ (fun _ => ?_))
  ·intro y0 y1 y2 y3
   unfold runs_Modes.l0
   repeat' first
   | (with_reducible exact ih0 _ _ _)
   | (with_reducible exact ih1 _ _ _ _)
   | (with_reducible exact runs_isRow.mono _ _)
   | (with_reducible exact runs_modes.mono _ _ _)
   | (with_reducible first | exact LeO.refl _ | exact LeO.none _ | refine LeO.ite ?_ ?_ | refine LeO.bind ?_ (fun _ => ?_))
theorem runs_Modes.mono : ∀ a0 a1 k, LeO (runs_Modes.f k a0 a1) (runs_Modes.f (k + 1) a0 a1) := by
 intro a0 a1 k
 obtain ⟨ih0, ih1⟩ := runs_Modes.mono_l k
 unfold runs_Modes.f
 repeat' first
   | (with_reducible exact ih0 _ _ _)
   | (with_reducible exact ih1 _ _ _ _)
   | (with_reducible exact runs_isRow.mono _ _)
   | (with_reducible exact runs_modes.mono _ _ _)
   | (with_reducible first | exact LeO.refl _ | exact LeO.none _ | refine LeO.ite ?_ ?_ | refine LeO.bind ?_ (fun _ => ?_))
set_option maxHeartbeats 8000000 in
set_option maxRecDepth 100000 in
theorem runs_Modes.calls (k : Nat) (A0 : Option Addr) (c0 : Nat) (l0 : List Int) (A1 : Option Addr) (c1 : Nat) (l1 : List Int) (r1 : List ByteArray) (r2 : Int) (w : World) (hT0 : TIs w) (hr0 : Kd.C (Kd.int .u8) w A0 l0.length l0) (hc0 : l0.length ≤ c0) (hr1 : Kd.C (Kd.int .u8) w A1 l1.length l1) (hc1 : l1.length ≤ c1) (h : runs_Modes.f k l0 l1 = some (r1, r2)) :
  Calls Tryd.prog 19 #[.slice A0 l0.length c0, .slice A1 l1.length c1] w fun e w' => ∃ v0_ : Value, e = .returned (.tuple #[v0_, .int .i64 r2]) ∧ Kd.R Kd.string 9 w' w.heap.size (fun _ => True) v0_ r1 ∧ Below w.heap.size w w' := by
 have HTI := Aside0.mk hT0
 clear hT0
 have hu56 := Tryd.underlying56
 have HR0 := Aside0.mk hr0
 have HC0 := Aside0.mk hc0
 clear hr0 hc0
 have HR1 := Aside0.mk hr1
 have HC1 := Aside0.mk hc1
 clear hr1 hc1
 have HB := Aside0.mk (Below.refl w.heap.size w)
 have H := h
 unfold runs_Modes.f at H
 clear h
 have HC3 := Aside0.mk H
 clear H
 go_enter Tryd.func19, Tryd.ntmps19
 go_upto_region 1 with (fail)
 go_cut [24] (fun v24 wc => ∃ (kq : Nat) (x24_2 : Bool), v24 = .bool x24_2 ∧ Aside0 (runs_Modes.j0 kq l0 l1 x24_2 = some (r1, r2)) ∧ Aside0 (kq ≤ k) ∧ Aside0 (Below w.heap.size w wc))
 case first =>
  have H := HC3.out
  clear HC3
  obtain ⟨t241, A4, H⟩ := oB H
  try dsimp only at H
  by_cases c5 : t241 = true
  ·subst c5
   rw [if_pos rfl] at H
   obtain ⟨t242, A6, H⟩ := oB H
   try dsimp only at H
   by_cases c7 : t242 = true
   ·subst c7
    rw [if_pos rfl] at H
    have H' := Aside0.mk H
    clear H
    go_wp2_with (first | (refine gF 20 11 Tryd.func20 #[.slice A0 l0.length c0] rfl rfl ?_; (with_reducible refine (runs_isRow.calls k _ _ l0 true _ ?side1 ?side2 A4.out).mono ?_); (case side1 => exact cU (Kd.C_below HR0.out HB.out)); (case side2 => exact HC0.out); rintro e w8 ⟨rfl, hb⟩; refine ⟨_, rfl, ?_⟩; have n_ := aE (bs hb); clear HB; have HB := n_; clear n_) | (go_at_call 20; (with_reducible refine (runs_isRow.calls k _ _ l1 true _ ?side1 ?side2 A6.out).mono ?_); (case side1 => exact cU (Kd.C_below HR1.out HB.out)); (case side2 => exact HC1.out); rintro e w9 ⟨rfl, hb⟩; have n_ := aE (bs hb); clear HB; have HB := n_; clear n_))
    go_meet
    case rel => exact ⟨_, (((l0.length : Int) != (l1.length : Int))), rq, H', ⟨by first | omega | exact Nat.le_refl _⟩, ⟨bl⟩⟩
   ·replace c7 := Bool.eq_false_iff.mpr c7
    subst c7
    rw [if_neg Bool.false_ne_true] at H
    have H' := Aside0.mk H
    clear H
    go_wp2_with (first | (refine gF 20 11 Tryd.func20 #[.slice A0 l0.length c0] rfl rfl ?_; (with_reducible refine (runs_isRow.calls k _ _ l0 true _ ?side1 ?side2 A4.out).mono ?_); (case side1 => exact cU (Kd.C_below HR0.out HB.out)); (case side2 => exact HC0.out); rintro e w10 ⟨rfl, hb⟩; refine ⟨_, rfl, ?_⟩; have n_ := aE (bs hb); clear HB; have HB := n_; clear n_) | (go_at_call 20; (with_reducible refine (runs_isRow.calls k _ _ l1 false _ ?side1 ?side2 A6.out).mono ?_); (case side1 => exact cU (Kd.C_below HR1.out HB.out)); (case side2 => exact HC1.out); rintro e w11 ⟨rfl, hb⟩; have n_ := aE (bs hb); clear HB; have HB := n_; clear n_))
    go_meet
    case rel => exact ⟨_, (true), rq, H', ⟨by first | omega | exact Nat.le_refl _⟩, ⟨bl⟩⟩
  ·replace c5 := Bool.eq_false_iff.mpr c5
   subst c5
   rw [if_neg Bool.false_ne_true] at H
   have H' := Aside0.mk H
   clear H
   go_wp2_with (first | (refine gF 20 11 Tryd.func20 #[.slice A0 l0.length c0] rfl rfl ?_; (with_reducible refine (runs_isRow.calls k _ _ l0 false _ ?side1 ?side2 A4.out).mono ?_); (case side1 => exact cU (Kd.C_below HR0.out HB.out)); (case side2 => exact HC0.out); rintro e w12 ⟨rfl, hb⟩; refine ⟨_, rfl, ?_⟩; have n_ := aE (bs hb); clear HB; have HB := n_; clear n_))
   go_meet
   case rel => exact ⟨_, (true), rq, H', ⟨by first | omega | exact Nat.le_refl _⟩, ⟨bl⟩⟩
 case rest =>
  clear HC3
  try clear c1
  obtain ⟨kq, x24_2, rfl, HA, HJ2, HB⟩ := hcut
  cases kq with
  | zero => exact absurd HA.out (by simp [runs_Modes.j0])
  | succ kj2 =>
   have H := HA.out
   clear HA
   simp only [runs_Modes.j0] at H
   by_cases c13 : x24_2 = true
   ·subst c13
    rw [if_pos rfl] at H
    simp only [Option.some.injEq, Prod.mk.injEq] at H
    obtain ⟨rfl, rfl⟩ := H
    go_wp2
    go_ret2
    exact ⟨_, re, by first | exact Kd.R_nil _ _ _ _ _ | exact Kd.N_nil _ _ _ _ _ | exact Kd.V_nil _ _ _ _ _ | exact Kd.Q_nil _ _ _ _ _ | exact Kd.S_nil _ _ _ _ _, bl⟩
   ·replace c13 := Bool.eq_false_iff.mpr c13
    subst c13
    rw [if_neg Bool.false_ne_true] at H
    obtain ⟨t243, A14, H⟩ := oB H
    try dsimp only at H
    have H' := Aside0.mk H
    clear H
    go_wp2_with (first | (refine gF 25 27 Tryd.func25 #[.slice A0 l0.length c0, .slice A1 l1.length c1] rfl rfl ?_; (with_reducible refine (runs_modes.calls kj2 _ _ l0 _ _ l1 t243 _ ?side1 ?side2 ?side3 ?side4 A14.out).mono ?_); (case side1 => exact cU (Kd.C_below HR0.out HB.out)); (case side2 => exact HC0.out); (case side3 => exact cU (Kd.C_below HR1.out HB.out)); (case side4 => exact HC1.out); rintro e w15 ⟨v244, rfl, ho0, hb⟩; refine ⟨_, rfl, ?_⟩; have n_ := aC (Kd.R_lower ho0 bz) (aE (bs hb)); clear HB; obtain ⟨HO245, HB⟩ := n_; obtain ⟨Ao16, co16, eo16⟩ := Kd.R_slice HO245.out; subst eo16))
    go_loopg [6, 29] kj2 (fun kq v6 v29 w' => ∃ (x6_2 : List ByteArray) (x29_2 : Int), v29 = .int .i64 x29_2 ∧ Aside0 (runs_Modes.l0 kq x6_2 t243 (t243.length : Int) x29_2 = some (r1, r2)) ∧ Aside0 (kq ≤ kj2) ∧ Aside0 (Kd.R Kd.string 9 w' w.heap.size (fun _ => True) v6 x6_2) ∧ Aside0 (Kd.R k56 56 w' w.heap.size (fun _ => True) (.slice Ao16 t243.length co16) t243) ∧ Aside0 (Below w.heap.size w w'))
    case atStart => exact ⟨(([] : List ByteArray)), (0), rq, H', ⟨Nat.le_refl _⟩, ⟨by first | exact Kd.R_nil _ _ _ _ _ | exact Kd.N_nil _ _ _ _ _ | exact Kd.V_nil _ _ _ _ _ | exact Kd.Q_nil _ _ _ _ _ | exact Kd.S_nil _ _ _ _ _⟩, ⟨rU HO245.out⟩, ⟨bl⟩⟩
    case round =>
     clear H'
     try clear c1
     obtain ⟨x6_2, x29_2, rfl, HA, HK2, HO_6, HO_27, HB⟩ := hrel
     cases gk with
     | zero => exact absurd HA.out (by simp [runs_Modes.l0])
     | succ k2 =>
      have H := HA.out
      clear HA
      simp only [runs_Modes.l0] at H
      rcases iL H with H1 | H1 <;> clear H <;> obtain ⟨H, c17b0⟩ := H1
      ·by_cases c18 : 0 ≤ x29_2
       ·rw [if_pos c18] at H
        have c18b0 := decide_eq_true c18
        clear c18
        by_cases c19 : x29_2 < (t243.length : Int)
        ·rw [if_pos c19] at H
         have c19b0 := decide_eq_true c19
         clear c19
         rcases iE H with H1 | H1 <;> clear H <;> obtain ⟨H, c20b0, c20b1, c20⟩ := H1
         ·obtain ⟨t248, A21, H⟩ := oB H
          try dsimp only at H
          by_cases c22 : ((rd_T56 t243 x29_2).f0).size + t248.size ≤ 9223372036854775807
          ·rw [if_pos c22] at H
           have c22b0 := eq_true c22
           have c22b1 := decide_eq_true c22
           try have c22b2 : (9223372036854775807 < ((rd_T56 t243 x29_2).f0).size + t248.size) = False := eq_false (Nat.not_lt.2 c22)
           by_cases c23 : x6_2.length < 8796093022208
           ·rw [if_pos c23] at H
            have LMc23 := Aside0.mk c23
            clear c23
            obtain ⟨y249, hy_⟩ : ∃ y_ : List ByteArray, y_ = (x6_2 ++ [((rd_T56 t243 x29_2).f0) ++ t248]) := ⟨_, rfl⟩
            replace H : (runs_Modes.l0 k2 y249 t243 (t243.length : Int) (wrap64 (x29_2 + 1))) = some (r1, r2) := rh
            have Ny249 := aE hy_
            clear hy_
            have H' := Aside0.mk H
            clear H
            have p246 : 0 ≤ (x29_2 : Int) := dt
            have q246 : x29_2 < (t243.length : Int) := dt
            obtain ⟨ad246, e246, hx246_0, hx246_1, hx246_2, hx246_3, hx246_4⟩ := at_T56 (Kd.R_reads' HO_27.out).2.2 x29_2 p246 q246
            cases e246
            replace p246 := eq_true p246
            replace q246 := eq_true q246
            go_wp2_with (first | ((with_reducible refine gd 8 rfl ?_); (try (refine gate_guard (by rfl) ?_; dsimp only)); refine bx 8 #[.string (⟨#[]⟩ : ByteArray), .int .i64 0, .int .i64 0, .int .i64 0, .int .i64 0] 56 rfl rfl ?_; intro gb247 hg w24 hbox hb; have n_ := aC (Kd.R_below (rU HO_6.out) hb) (aC (Kd.R_below (Kd.R_elderB (rU HO_27.out) gb247 (Nat.le_of_eq hg.symm)) hb) (aC (bs hb) (aC hbox (aC (gz hg) (aE (gz hg)))))); clear HO_6 HO_27 HB; obtain ⟨HO_6, HO_27, HB, BK247, GW247, GE247⟩ := n_; clear hb hbox hg; obtain ⟨hcz25_0, hcz25_1, hcz25_2, hcz25_3, hcz25_4, hfz25_0, hfz25_1, hfz25_2, hfz25_3, hfz25_4⟩ := cz5f BK247.out) | (refine gF 33 40 Tryd.func33 #[.int .i64 ((rd_T56 t243 x29_2).f1)] rfl rfl ?_; (with_reducible refine (strconv_Itoa_33.calls ((rd_T56 t243 x29_2).f1) t248 _ (TIs.on HTI) A21.out).mono ?_); rintro e w26 ⟨rfl, hb⟩; refine ⟨_, rfl, ?_⟩; have n_ := aC (Kd.R_below (rU (Kd.R_mono (Kd.R_far (p := ⟨gb247, 4, none⟩) (Kd.R_far (p := ⟨gb247, 3, none⟩) (Kd.R_far (p := ⟨gb247, 2, none⟩) (Kd.R_far (p := ⟨gb247, 1, none⟩) (Kd.R_far (p := ⟨gb247, 0, none⟩) (Kd.R_types HO_6.out BK247.out (by decide)) (fun _ hk => hk.2) (.string ((rd_T56 t243 x29_2).f0))) (fun _ hk => hk.2) (.int .i64 ((rd_T56 t243 x29_2).f1))) (fun _ hk => hk.2) (.int .i64 ((rd_T56 t243 x29_2).f2.f0))) (fun _ hk => hk.2) (.int .i64 ((rd_T56 t243 x29_2).f2.f1))) (fun _ hk => hk.2) (.int .i64 ((rd_T56 t243 x29_2).f3))) (fun _ h_ => h_.1))) hb) (aC (Kd.R_below (rU (Kd.R_mono (Kd.R_far (p := ⟨gb247, 4, none⟩) (Kd.R_far (p := ⟨gb247, 3, none⟩) (Kd.R_far (p := ⟨gb247, 2, none⟩) (Kd.R_far (p := ⟨gb247, 1, none⟩) (Kd.R_far (p := ⟨gb247, 0, none⟩) (Kd.R_mono HO_27.out (fun k_ hk => (⟨hk, hk.2⟩ : _ ∧ k_ ≠ gb247))) (fun _ hk => hk.2) (.string ((rd_T56 t243 x29_2).f0))) (fun _ hk => hk.2) (.int .i64 ((rd_T56 t243 x29_2).f1))) (fun _ hk => hk.2) (.int .i64 ((rd_T56 t243 x29_2).f2.f0))) (fun _ hk => hk.2) (.int .i64 ((rd_T56 t243 x29_2).f2.f1))) (fun _ hk => hk.2) (.int .i64 ((rd_T56 t243 x29_2).f3))) (fun _ h_ => h_.1))) hb) (aC (blk_below (g := gb247) (o := .cells #[.string ((rd_T56 t243 x29_2).f0), .int .i64 ((rd_T56 t243 x29_2).f1), .int .i64 ((rd_T56 t243 x29_2).f2.f0), .int .i64 ((rd_T56 t243 x29_2).f2.f1), .int .i64 ((rd_T56 t243 x29_2).f3)] 56 (0, 0)) (by (with_reducible repeat (first | refine blk_drewN ?_ _ | refine blk_drew ?_ | refine blk_alloc ?_ _)); refine blk_put (cs := #[.string ((rd_T56 t243 x29_2).f0), .int .i64 ((rd_T56 t243 x29_2).f1), .int .i64 ((rd_T56 t243 x29_2).f2.f0), .int .i64 ((rd_T56 t243 x29_2).f2.f1), .int .i64 0]) ?_ 4 _ rfl; (with_reducible repeat (first | refine blk_drewN ?_ _ | refine blk_drew ?_ | refine blk_alloc ?_ _)); refine blk_put (cs := #[.string ((rd_T56 t243 x29_2).f0), .int .i64 ((rd_T56 t243 x29_2).f1), .int .i64 ((rd_T56 t243 x29_2).f2.f0), .int .i64 0, .int .i64 0]) ?_ 3 _ rfl; (with_reducible repeat (first | refine blk_drewN ?_ _ | refine blk_drew ?_ | refine blk_alloc ?_ _)); refine blk_put (cs := #[.string ((rd_T56 t243 x29_2).f0), .int .i64 ((rd_T56 t243 x29_2).f1), .int .i64 0, .int .i64 0, .int .i64 0]) ?_ 2 _ rfl; (with_reducible repeat (first | refine blk_drewN ?_ _ | refine blk_drew ?_ | refine blk_alloc ?_ _)); refine blk_put (cs := #[.string ((rd_T56 t243 x29_2).f0), .int .i64 0, .int .i64 0, .int .i64 0, .int .i64 0]) ?_ 1 _ rfl; (with_reducible repeat (first | refine blk_drewN ?_ _ | refine blk_drew ?_ | refine blk_alloc ?_ _)); refine blk_put (cs := #[.string (⟨#[]⟩ : ByteArray), .int .i64 0, .int .i64 0, .int .i64 0, .int .i64 0]) ?_ 0 _ rfl; (with_reducible repeat (first | refine blk_drewN ?_ _ | refine blk_drew ?_ | refine blk_alloc ?_ _)); exact BK247.out) hb) (aE (bs hb)))); clear HO_6 HO_27 BK247 HB; obtain ⟨HO_6, HO_27, BK247, HB⟩ := n_) | ((with_reducible refine gate_builtin (b := .append) (xs := #[.tmp 42, .tmp 44]) rfl ?_); (try (refine gate_guard (by rfl) ?_; dsimp only)); at_builtin; refine Kd.R_append Kd.string (w0 := w) w.heap.size rfl (.tmp 42) (.tmp 44) 45 9 (.string ⟨#[]⟩) 16 rfl Tryd.underlying45 info9 rfl (by decide) (by omega) u6 x6_2 (((rd_T56 t243 x29_2).f0) ++ t248) [.string (((rd_T56 t243 x29_2).f0) ++ t248)] (fun _ => True) (fun _ => False) rfl rfl ?aP (fun _ hk => hk.elim) ?aF ?aO ?aB ?aS ?aL ?_; (case aP => exact rfl); (case aB => exact bl); (case aF => exact (fun _ _ => trivial)); (case aO => exact (rU HO_6.out)); (case aS => exact bz); (case aL => have := LMc23.out; omega); intro v250 w27 ho hb hg hat; rw [← Ny249.out] at ho; have n_ := aC (Kd.R_over' (rU HO_27.out) (Kd.R_typed (rU HO_6.out)) (by decide) hg) (aC (blk_grown (g := gb247) (o := .cells #[.string ((rd_T56 t243 x29_2).f0), .int .i64 ((rd_T56 t243 x29_2).f1), .int .i64 ((rd_T56 t243 x29_2).f2.f0), .int .i64 ((rd_T56 t243 x29_2).f2.f1), .int .i64 ((rd_T56 t243 x29_2).f3)] 56 (0, 0)) (bU BK247.out) hg (Kd.R_ne HO_6.out BK247.out (by decide))) (aC hb (aE ho))); clear HO_27 BK247 HB HO_6; obtain ⟨HO_27, BK247, HB, HO251⟩ := n_; clear ho hb hg hat))
            go_roundg k2
            case measure => have := HJ2.out; have := HK2.out; omega
            case rel => exact ⟨(y249), (wrap64 (x29_2 + 1)), rq, H', ⟨by have := HJ2.out; have := HK2.out; omega⟩, ⟨rU HO251.out⟩, ⟨rU (Kd.R_mono HO_27.out (fun _ hk => trivial))⟩, ⟨bl⟩⟩
           ·rw [if_neg c23] at H
            exact absurd H (by simp)
          ·rw [if_neg c22] at H
           exact absurd H (by simp)
         ·by_cases c28 : x6_2.length < 8796093022208
          ·rw [if_pos c28] at H
           have LMc28 := Aside0.mk c28
           clear c28
           obtain ⟨y252, hy_⟩ : ∃ y_ : List ByteArray, y_ = (x6_2 ++ [(rd_T56 t243 x29_2).f0]) := ⟨_, rfl⟩
           replace H : (runs_Modes.l0 k2 y252 t243 (t243.length : Int) (wrap64 (x29_2 + 1))) = some (r1, r2) := rh
           have Ny252 := aE hy_
           clear hy_
           have H' := Aside0.mk H
           clear H
           have p246 : 0 ≤ (x29_2 : Int) := dt
           have q246 : x29_2 < (t243.length : Int) := dt
           obtain ⟨ad246, e246, hx246_0, hx246_1, hx246_2, hx246_3, hx246_4⟩ := at_T56 (Kd.R_reads' HO_27.out).2.2 x29_2 p246 q246
           cases e246
           replace p246 := eq_true p246
           replace q246 := eq_true q246
           go_wp2_with (first | ((with_reducible refine gd 8 rfl ?_); (try (refine gate_guard (by rfl) ?_; dsimp only)); refine bx 8 #[.string (⟨#[]⟩ : ByteArray), .int .i64 0, .int .i64 0, .int .i64 0, .int .i64 0] 56 rfl rfl ?_; intro gb247 hg w29 hbox hb; have n_ := aC (Kd.R_below (rU HO_6.out) hb) (aC (Kd.R_below (Kd.R_elderB (rU HO_27.out) gb247 (Nat.le_of_eq hg.symm)) hb) (aC (bs hb) (aC hbox (aC (gz hg) (aE (gz hg)))))); clear HO_6 HO_27 HB; obtain ⟨HO_6, HO_27, HB, BK247, GW247, GE247⟩ := n_; clear hb hbox hg; obtain ⟨hcz30_0, hcz30_1, hcz30_2, hcz30_3, hcz30_4, hfz30_0, hfz30_1, hfz30_2, hfz30_3, hfz30_4⟩ := cz5f BK247.out) | ((with_reducible refine gate_builtin (b := .append) (xs := #[.tmp 42, .tmp 44]) rfl ?_); (try (refine gate_guard (by rfl) ?_; dsimp only)); at_builtin; refine Kd.R_append Kd.string (w0 := w) w.heap.size rfl (.tmp 42) (.tmp 44) 45 9 (.string ⟨#[]⟩) 16 rfl Tryd.underlying45 info9 rfl (by decide) (by omega) u6 x6_2 ((rd_T56 t243 x29_2).f0) [.string ((rd_T56 t243 x29_2).f0)] (fun _ => True) (fun _ => False) rfl (by first | (go_simp; done) | (go_simp; rfl)) ?aP (fun _ hk => hk.elim) ?aF ?aO ?aB ?aS ?aL ?_; (case aP => exact rfl); (case aB => exact bl); (case aF => exact (fun _ _ => trivial)); (case aO => exact (rU (Kd.R_mono (Kd.R_far (p := ⟨gb247, 4, none⟩) (Kd.R_far (p := ⟨gb247, 3, none⟩) (Kd.R_far (p := ⟨gb247, 2, none⟩) (Kd.R_far (p := ⟨gb247, 1, none⟩) (Kd.R_far (p := ⟨gb247, 0, none⟩) (Kd.R_types HO_6.out BK247.out (by decide)) (fun _ hk => hk.2) (.string ((rd_T56 t243 x29_2).f0))) (fun _ hk => hk.2) (.int .i64 ((rd_T56 t243 x29_2).f1))) (fun _ hk => hk.2) (.int .i64 ((rd_T56 t243 x29_2).f2.f0))) (fun _ hk => hk.2) (.int .i64 ((rd_T56 t243 x29_2).f2.f1))) (fun _ hk => hk.2) (.int .i64 ((rd_T56 t243 x29_2).f3))) (fun _ hk => trivial)))); (case aS => exact bz); (case aL => have := LMc28.out; omega); intro v253 w31 ho hb hg hat; rw [← Ny252.out] at ho; have n_ := aC (Kd.R_over' (rU (Kd.R_mono (Kd.R_far (p := ⟨gb247, 4, none⟩) (Kd.R_far (p := ⟨gb247, 3, none⟩) (Kd.R_far (p := ⟨gb247, 2, none⟩) (Kd.R_far (p := ⟨gb247, 1, none⟩) (Kd.R_far (p := ⟨gb247, 0, none⟩) (Kd.R_mono HO_27.out (fun k_ hk => (⟨hk, hk.2⟩ : _ ∧ k_ ≠ gb247))) (fun _ hk => hk.2) (.string ((rd_T56 t243 x29_2).f0))) (fun _ hk => hk.2) (.int .i64 ((rd_T56 t243 x29_2).f1))) (fun _ hk => hk.2) (.int .i64 ((rd_T56 t243 x29_2).f2.f0))) (fun _ hk => hk.2) (.int .i64 ((rd_T56 t243 x29_2).f2.f1))) (fun _ hk => hk.2) (.int .i64 ((rd_T56 t243 x29_2).f3))) (fun _ h_ => h_.1))) (Kd.R_typed (rU (Kd.R_mono (Kd.R_far (p := ⟨gb247, 4, none⟩) (Kd.R_far (p := ⟨gb247, 3, none⟩) (Kd.R_far (p := ⟨gb247, 2, none⟩) (Kd.R_far (p := ⟨gb247, 1, none⟩) (Kd.R_far (p := ⟨gb247, 0, none⟩) (Kd.R_types HO_6.out BK247.out (by decide)) (fun _ hk => hk.2) (.string ((rd_T56 t243 x29_2).f0))) (fun _ hk => hk.2) (.int .i64 ((rd_T56 t243 x29_2).f1))) (fun _ hk => hk.2) (.int .i64 ((rd_T56 t243 x29_2).f2.f0))) (fun _ hk => hk.2) (.int .i64 ((rd_T56 t243 x29_2).f2.f1))) (fun _ hk => hk.2) (.int .i64 ((rd_T56 t243 x29_2).f3))) (fun _ h_ => h_.1)))) (by decide) hg) (aC (blk_grown (g := gb247) (o := .cells #[.string ((rd_T56 t243 x29_2).f0), .int .i64 ((rd_T56 t243 x29_2).f1), .int .i64 ((rd_T56 t243 x29_2).f2.f0), .int .i64 ((rd_T56 t243 x29_2).f2.f1), .int .i64 ((rd_T56 t243 x29_2).f3)] 56 (0, 0)) (by (with_reducible repeat (first | refine blk_drewN ?_ _ | refine blk_drew ?_ | refine blk_alloc ?_ _)); refine blk_put (cs := #[.string ((rd_T56 t243 x29_2).f0), .int .i64 ((rd_T56 t243 x29_2).f1), .int .i64 ((rd_T56 t243 x29_2).f2.f0), .int .i64 ((rd_T56 t243 x29_2).f2.f1), .int .i64 0]) ?_ 4 _ rfl; (with_reducible repeat (first | refine blk_drewN ?_ _ | refine blk_drew ?_ | refine blk_alloc ?_ _)); refine blk_put (cs := #[.string ((rd_T56 t243 x29_2).f0), .int .i64 ((rd_T56 t243 x29_2).f1), .int .i64 ((rd_T56 t243 x29_2).f2.f0), .int .i64 0, .int .i64 0]) ?_ 3 _ rfl; (with_reducible repeat (first | refine blk_drewN ?_ _ | refine blk_drew ?_ | refine blk_alloc ?_ _)); refine blk_put (cs := #[.string ((rd_T56 t243 x29_2).f0), .int .i64 ((rd_T56 t243 x29_2).f1), .int .i64 0, .int .i64 0, .int .i64 0]) ?_ 2 _ rfl; (with_reducible repeat (first | refine blk_drewN ?_ _ | refine blk_drew ?_ | refine blk_alloc ?_ _)); refine blk_put (cs := #[.string ((rd_T56 t243 x29_2).f0), .int .i64 0, .int .i64 0, .int .i64 0, .int .i64 0]) ?_ 1 _ rfl; (with_reducible repeat (first | refine blk_drewN ?_ _ | refine blk_drew ?_ | refine blk_alloc ?_ _)); refine blk_put (cs := #[.string (⟨#[]⟩ : ByteArray), .int .i64 0, .int .i64 0, .int .i64 0, .int .i64 0]) ?_ 0 _ rfl; (with_reducible repeat (first | refine blk_drewN ?_ _ | refine blk_drew ?_ | refine blk_alloc ?_ _)); exact BK247.out) hg (Kd.R_ne HO_6.out BK247.out (by decide))) (aC hb (aE ho))); clear HO_27 BK247 HB HO_6; obtain ⟨HO_27, BK247, HB, HO254⟩ := n_; clear ho hb hg hat))
           go_roundg k2
           case measure => have := HJ2.out; have := HK2.out; omega
           case rel => exact ⟨(y252), (wrap64 (x29_2 + 1)), rq, H', ⟨by have := HJ2.out; have := HK2.out; omega⟩, ⟨rU HO254.out⟩, ⟨rU (Kd.R_mono HO_27.out (fun _ hk => trivial))⟩, ⟨bl⟩⟩
          ·rw [if_neg c28] at H
           exact absurd H (by simp)
        ·rw [if_neg c19] at H
         exact absurd H (by simp)
       ·rw [if_neg c18] at H
        exact absurd H (by simp)
      ·simp only [Option.some.injEq, Prod.mk.injEq] at H
       obtain ⟨rfl, rfl⟩ := H
       go_wp2
       go_ret2
       exact ⟨_, re, rU HO_6.out, bl⟩
end Go.Proofs.YtidgpjcgoocpeaaDoor.PTopRuns
