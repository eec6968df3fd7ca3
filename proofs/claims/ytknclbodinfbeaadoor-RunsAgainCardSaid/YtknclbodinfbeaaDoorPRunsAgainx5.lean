-- Written by a program of this session (wip/tools/myprint.py) over the kit's print. Not trusted: Lean checks it.
import Derived.Test.YtknclbodinfbeaaDoorPRunsAgainx0
import Derived.Test.YtknclbodinfbeaaDoorPRunsAgainx4
namespace Go.Proofs.YtknclbodinfbeaaDoor.PRunsAgain
open Go.RowKit Go.Proofs.YtknclbodinfbeaaDoorW.PrintWords Go.Proofs.YtknclbodinfbeaaDoorW.PrintLast Go.Proofs.YtknclbodinfbeaaDoorW.PrintMore
attribute [local go_sem] max2_int min2_int max_two min_two max_three min_three max_four min_four   -- for this text's walks alone
set_option linter.unusedVariables false
set_option linter.unusedSimpArgs false

/-! ### runs_marks: function 66 -/
def runs_marks.l0 : Nat → List Int → Int → Int → Option (Int × Int)
 | 0, _, _, _ => none
 | k + 1, x0, x2, x6 => if x6 < (x0.length : Int) then (if x6 > 0 then (if 0 ≤ (wrap64 (x6 - 1)) then (if (wrap64 (x6 - 1)) < (x0.length : Int) then (if 0 ≤ x6 then (if (rd x0 x6) = x2 then (runs_marks.l0 k x0 x2 (wrap64 (x6 + 1))) else (if (rd x0 (wrap64 (x6 - 1))) = x2 then ((runs_change.f k x0 (mn x6 (x0.length : Int)) x2).bind fun t217 => (some (mn x6 (x0.length : Int), t217))) else (runs_marks.l0 k x0 x2 (wrap64 (x6 + 1))))) else (none)) else (none)) else (none)) else (if 0 ≤ x6 then (if (rd x0 x6) = x2 then (runs_marks.l0 k x0 x2 (wrap64 (x6 + 1))) else (if 0 = x2 then ((runs_change.f k x0 (mn x6 (x0.length : Int)) x2).bind fun t219 => (some (mn x6 (x0.length : Int), t219))) else (runs_marks.l0 k x0 x2 (wrap64 (x6 + 1))))) else (none))) else ((runs_change.f k x0 (mn x6 (x0.length : Int)) x2).bind fun t214 => (some (mn x6 (x0.length : Int), t214)))
def runs_marks.f (k : Nat) (l0 : List Int) (a1 : Int) (a2 : Int) : Option (Int × Int) := runs_marks.l0 k l0 a2 (wrap64 (a1 + 1))
theorem runs_marks.mono_l : ∀ k, (∀ y0 y1 y2, LeO (runs_marks.l0 k y0 y1 y2) (runs_marks.l0 (k + 1) y0 y1 y2))
 | 0 => fun _ _ _ r h => by simp [runs_marks.l0] at h
 | k + 1 => by
  have ih0 := runs_marks.mono_l k
  ·intro y0 y1 y2
   unfold runs_marks.l0
   repeat' first
   | (with_reducible exact ih0 _ _ _)
   | (with_reducible exact runs_change.mono _ _ _ _)
   | (with_reducible first | exact LeO.refl _ | exact LeO.none _ | refine LeO.ite ?_ ?_ | refine LeO.bind ?_ (fun _ => ?_))
   | exact ih0 _ _ _
   | exact runs_change.mono _ _ _ _
   | exact LeO.none _ | refine LeO.ite ?_ ?_ | refine LeO.bind ?_ (fun _ => ?_)
theorem runs_marks.mono : ∀ a0 a1 a2 k, LeO (runs_marks.f k a0 a1 a2) (runs_marks.f (k + 1) a0 a1 a2) := by
 intro a0 a1 a2 k
 have ih0 := runs_marks.mono_l k
 unfold runs_marks.f
 repeat' first
   | (with_reducible exact ih0 _ _ _)
   | (with_reducible exact runs_change.mono _ _ _ _)
   | (with_reducible first | exact LeO.refl _ | exact LeO.none _ | refine LeO.ite ?_ ?_ | refine LeO.bind ?_ (fun _ => ?_))
   | exact ih0 _ _ _
   | exact runs_change.mono _ _ _ _
   | exact LeO.none _ | refine LeO.ite ?_ ?_ | refine LeO.bind ?_ (fun _ => ?_)
set_option maxHeartbeats 8000000 in
set_option maxRecDepth 100000 in
theorem runs_marks.calls (k : Nat) (A0 : Option Addr) (c0 : Nat) (l0 : List Int) (a1 : Int) (a2 : Int) (r1 : Int) (r2 : Int) (w : World) (hr0 : Kd.C (Kd.int .u8) w A0 l0.length l0) (hc0 : l0.length ≤ c0) (h : runs_marks.f k l0 a1 a2 = some (r1, r2)) :
  Calls Tryd.prog 66 #[.slice A0 l0.length c0, .int .i64 a1, .int .u8 a2] w fun e w' => e = .returned (.tuple #[.int .i64 r1, .int .i64 r2]) ∧ Below w.heap.size w w' := by
 have HR0 := Aside0.mk hr0
 have HC0 := Aside0.mk hc0
 clear hr0 hc0
 have HB := Aside0.mk (Below.refl w.heap.size w)
 have H : (runs_marks.l0 k l0 a2 (wrap64 (a1 + 1))) = some (r1, r2) := h
 clear h
 have H' := Aside0.mk H
 clear H
 go_enter Tryd.func66, Tryd.ntmps66
 go_wp2
 go_loopg [6] k (fun kq v6 w' => ∃ (x6_1 : Int), v6 = .int .i64 x6_1 ∧ Aside0 (runs_marks.l0 kq l0 a2 x6_1 = some (r1, r2)) ∧ Aside0 (kq ≤ k) ∧ Aside0 (Below w.heap.size w w'))
 case atStart => exact ⟨(wrap64 (a1 + 1)), rq, H', ⟨Nat.le_refl _⟩, ⟨bl⟩⟩
 case round =>
  clear H'
  obtain ⟨x6_1, rfl, HA, HK1, HB⟩ := hrel
  cases gk with
  | zero => exact absurd HA.out (by simp [runs_marks.l0])
  | succ k1 =>
   have H := HA.out
   clear HA
   simp only [runs_marks.l0] at H
   by_cases c4 : x6_1 < (l0.length : Int)
   ·rw [if_pos c4] at H
    have c4b0 := decide_eq_true c4
    clear c4
    by_cases c5 : x6_1 > 0
    ·rw [if_pos c5] at H
     have c5b0 := decide_eq_true c5
     clear c5
     obtain ⟨ji6, hji6⟩ : ∃ j_ : Int, (wrap64 (x6_1 - 1)) = j_ := ⟨_, rfl⟩
     replace H : (if 0 ≤ (ji6) then (if (ji6) < (l0.length : Int) then (if 0 ≤ x6_1 then (if (rd l0 x6_1) = a2 then (runs_marks.l0 k1 l0 a2 (wrap64 (x6_1 + 1))) else (if (rd l0 (ji6)) = a2 then ((runs_change.f k1 l0 (mn x6_1 (l0.length : Int)) a2).bind fun t217 => (some (mn x6_1 (l0.length : Int), t217))) else (runs_marks.l0 k1 l0 a2 (wrap64 (x6_1 + 1))))) else (none)) else (none)) else (none)) = some (r1, r2) := by first | (rw [hji6] at H; exact H) | (simp only [hji6] at H ⊢; exact H)
     have hji6w : (IntKind.i64.wrap (x6_1 - 1)) = ji6 := (i64_w _).trans hji6
     by_cases c7 : 0 ≤ (ji6)
     ·rw [if_pos c7] at H
      have c7b0 := decide_eq_true c7
      clear c7
      by_cases c8 : (ji6) < (l0.length : Int)
      ·rw [if_pos c8] at H
       have c8b0 := decide_eq_true c8
       clear c8
       by_cases c9 : 0 ≤ x6_1
       ·rw [if_pos c9] at H
        have c9b0 := decide_eq_true c9
        clear c9
        by_cases c10 : (rd l0 x6_1) = a2
        ·rw [if_pos c10] at H
         have c10b0 := beq_iff_eq.mpr c10
         have c10b1 := bne_eq_false_iff_eq.mpr c10
         clear c10
         have H' := Aside0.mk H
         clear H
         have p215 : 0 ≤ ((ji6) : Int) := dt
         have q215 : (ji6) < (l0.length : Int) := dt
         obtain ⟨ad215, e215, hx215_0⟩ := Kd.at_int HR0.out (ji6) p215 q215
         cases e215
         replace hx215_0 := hcB HB.out hx215_0
         replace p215 := eq_true p215
         replace q215 := eq_true q215
         have p216 : 0 ≤ (x6_1 : Int) := dt
         have q216 : x6_1 < (l0.length : Int) := dt
         obtain ⟨ad216, e216, hx216_0⟩ := Kd.at_int HR0.out x6_1 p216 q216
         obtain rfl : ad215 = ad216 := (by injection e216)
         replace hx216_0 := hcB HB.out hx216_0
         replace p216 := eq_true p216
         replace q216 := eq_true q216
         go_wp2
         go_roundg k1
         case measure => have := HK1.out; omega
         case rel => exact ⟨(wrap64 (x6_1 + 1)), rq, H', ⟨by have := HK1.out; omega⟩, ⟨bl⟩⟩
        ·rw [if_neg c10] at H
         have c10b0 := beq_eq_false_iff_ne.mpr c10
         have c10b1 := bne_iff_ne.mpr c10
         by_cases c11 : (rd l0 (ji6)) = a2
         ·rw [if_pos c11] at H
          have c11b0 := beq_iff_eq.mpr c11
          have c11b1 := bne_eq_false_iff_eq.mpr c11
          clear c11
          obtain ⟨ji12, hji12⟩ : ∃ j_ : Int, (mn x6_1 (l0.length : Int)) = j_ := ⟨_, rfl⟩
          replace H : ((runs_change.f k1 l0 (ji12) a2).bind fun t217 => (some (ji12, t217))) = some (r1, r2) := by first | (rw [hji12] at H; exact H) | (simp only [hji12] at H ⊢; exact H)
          have hji12_ : (if (l0.length : Int) < x6_1 then (l0.length : Int) else x6_1) = ji12 := hji12
          replace H := Option.bind_eq_some_iff.mp H
          obtain ⟨t217, A130, H⟩ := H
          replace H : (some (ji12, t217)) = some (r1, r2) := H
          have A13 := Aside0.mk A130
          clear A130
          simp only [Option.some.injEq, Prod.mk.injEq] at H
          obtain ⟨rfl, rfl⟩ := H
          have p215 : 0 ≤ ((ji6) : Int) := dt
          have q215 : (ji6) < (l0.length : Int) := dt
          obtain ⟨ad215, e215, hx215_0⟩ := Kd.at_int HR0.out (ji6) p215 q215
          cases e215
          replace hx215_0 := hcB HB.out hx215_0
          replace p215 := eq_true p215
          replace q215 := eq_true q215
          have p216 : 0 ≤ (x6_1 : Int) := dt
          have q216 : x6_1 < (l0.length : Int) := dt
          obtain ⟨ad216, e216, hx216_0⟩ := Kd.at_int HR0.out x6_1 p216 q216
          obtain rfl : ad215 = ad216 := (by injection e216)
          replace hx216_0 := hcB HB.out hx216_0
          replace p216 := eq_true p216
          replace q216 := eq_true q216
          go_wp2_with (first | ((with_reducible refine gf 67 rfl ?_); refine goesL_ (some 43) rfl rfl Tryd.func67 (by kernel_rfl) rfl #[.slice (some ad215) l0.length c0, .int .i64 ji12, .int .u8 a2] rfl (by (try simp only [List.map_toArray, List.map_cons, List.map_nil]); first | done | (simp only [hji12]; rfl) | rfl | (simp only [List.length_drop, List.length_take]; rfl)) ?_; (with_reducible refine (runs_change.calls k1 _ _ l0 ji12 a2 t217 _ ?side1 ?side2 A13.out).mono ?_); (case side1 => exact cU (Kd.C_below HR0.out HB.out)); (case side2 => exact HC0.out); rintro e w14 ⟨rfl, hb⟩; refine ⟨_, rfl, ?_⟩; have n_ := aE (bs hb); clear HB; have HB := n_; clear n_; (try clear hb)))
          go_ret2
          exact ⟨by first | rfl | (simp [errW_none, errW_some] <;> rfl) | (simp only [← hji6, ← hji12]; first | rfl | (simp [errW_none, errW_some] <;> rfl)) | (simp [*, errW_none, errW_some] <;> rfl), bl⟩
         ·rw [if_neg c11] at H
          have c11b0 := beq_eq_false_iff_ne.mpr c11
          have c11b1 := bne_iff_ne.mpr c11
          have H' := Aside0.mk H
          clear H
          have p215 : 0 ≤ ((ji6) : Int) := dt
          have q215 : (ji6) < (l0.length : Int) := dt
          obtain ⟨ad215, e215, hx215_0⟩ := Kd.at_int HR0.out (ji6) p215 q215
          cases e215
          replace hx215_0 := hcB HB.out hx215_0
          replace p215 := eq_true p215
          replace q215 := eq_true q215
          have p216 : 0 ≤ (x6_1 : Int) := dt
          have q216 : x6_1 < (l0.length : Int) := dt
          obtain ⟨ad216, e216, hx216_0⟩ := Kd.at_int HR0.out x6_1 p216 q216
          obtain rfl : ad215 = ad216 := (by injection e216)
          replace hx216_0 := hcB HB.out hx216_0
          replace p216 := eq_true p216
          replace q216 := eq_true q216
          go_wp2
          go_roundg k1
          case measure => have := HK1.out; omega
          case rel => exact ⟨(wrap64 (x6_1 + 1)), rq, H', ⟨by have := HK1.out; omega⟩, ⟨bl⟩⟩
       ·rw [if_neg c9] at H
        exact absurd H (by simp)
      ·rw [if_neg c8] at H
       exact absurd H (by simp)
     ·rw [if_neg c7] at H
      exact absurd H (by simp)
    ·rw [if_neg c5] at H
     have c5b0 := decide_eq_false c5
     clear c5
     by_cases c15 : 0 ≤ x6_1
     ·rw [if_pos c15] at H
      have c15b0 := decide_eq_true c15
      clear c15
      by_cases c16 : (rd l0 x6_1) = a2
      ·rw [if_pos c16] at H
       have c16b0 := beq_iff_eq.mpr c16
       have c16b1 := bne_eq_false_iff_eq.mpr c16
       clear c16
       have H' := Aside0.mk H
       clear H
       have p218 : 0 ≤ (x6_1 : Int) := dt
       have q218 : x6_1 < (l0.length : Int) := dt
       obtain ⟨ad218, e218, hx218_0⟩ := Kd.at_int HR0.out x6_1 p218 q218
       cases e218
       replace hx218_0 := hcB HB.out hx218_0
       replace p218 := eq_true p218
       replace q218 := eq_true q218
       go_wp2
       go_roundg k1
       case measure => have := HK1.out; omega
       case rel => exact ⟨(wrap64 (x6_1 + 1)), rq, H', ⟨by have := HK1.out; omega⟩, ⟨bl⟩⟩
      ·rw [if_neg c16] at H
       have c16b0 := beq_eq_false_iff_ne.mpr c16
       have c16b1 := bne_iff_ne.mpr c16
       by_cases c17 : 0 = a2
       ·rw [if_pos c17] at H
        have c17b0 := beq_iff_eq.mpr c17
        have c17b1 := bne_eq_false_iff_eq.mpr c17
        clear c17
        obtain ⟨ji18, hji18⟩ : ∃ j_ : Int, (mn x6_1 (l0.length : Int)) = j_ := ⟨_, rfl⟩
        replace H : ((runs_change.f k1 l0 (ji18) a2).bind fun t219 => (some (ji18, t219))) = some (r1, r2) := by first | (rw [hji18] at H; exact H) | (simp only [hji18] at H ⊢; exact H)
        have hji18_ : (if (l0.length : Int) < x6_1 then (l0.length : Int) else x6_1) = ji18 := hji18
        replace H := Option.bind_eq_some_iff.mp H
        obtain ⟨t219, A190, H⟩ := H
        replace H : (some (ji18, t219)) = some (r1, r2) := H
        have A19 := Aside0.mk A190
        clear A190
        simp only [Option.some.injEq, Prod.mk.injEq] at H
        obtain ⟨rfl, rfl⟩ := H
        have p218 : 0 ≤ (x6_1 : Int) := dt
        have q218 : x6_1 < (l0.length : Int) := dt
        obtain ⟨ad218, e218, hx218_0⟩ := Kd.at_int HR0.out x6_1 p218 q218
        cases e218
        replace hx218_0 := hcB HB.out hx218_0
        replace p218 := eq_true p218
        replace q218 := eq_true q218
        go_wp2_with (first | ((with_reducible refine gf 67 rfl ?_); refine goesL_ (some 43) rfl rfl Tryd.func67 (by kernel_rfl) rfl #[.slice (some ad218) l0.length c0, .int .i64 ji18, .int .u8 a2] rfl (by (try simp only [List.map_toArray, List.map_cons, List.map_nil]); first | done | (simp only [hji18]; rfl) | rfl | (simp only [List.length_drop, List.length_take]; rfl)) ?_; (with_reducible refine (runs_change.calls k1 _ _ l0 ji18 a2 t219 _ ?side1 ?side2 A19.out).mono ?_); (case side1 => exact cU (Kd.C_below HR0.out HB.out)); (case side2 => exact HC0.out); rintro e w20 ⟨rfl, hb⟩; refine ⟨_, rfl, ?_⟩; have n_ := aE (bs hb); clear HB; have HB := n_; clear n_; (try clear hb)))
        go_ret2
        exact ⟨by first | rfl | (simp [errW_none, errW_some] <;> rfl) | (simp only [← hji18]; first | rfl | (simp [errW_none, errW_some] <;> rfl)) | (simp [*, errW_none, errW_some] <;> rfl), bl⟩
       ·rw [if_neg c17] at H
        have c17b0 := beq_eq_false_iff_ne.mpr c17
        have c17b1 := bne_iff_ne.mpr c17
        have H' := Aside0.mk H
        clear H
        have p218 : 0 ≤ (x6_1 : Int) := dt
        have q218 : x6_1 < (l0.length : Int) := dt
        obtain ⟨ad218, e218, hx218_0⟩ := Kd.at_int HR0.out x6_1 p218 q218
        cases e218
        replace hx218_0 := hcB HB.out hx218_0
        replace p218 := eq_true p218
        replace q218 := eq_true q218
        go_wp2
        go_roundg k1
        case measure => have := HK1.out; omega
        case rel => exact ⟨(wrap64 (x6_1 + 1)), rq, H', ⟨by have := HK1.out; omega⟩, ⟨bl⟩⟩
     ·rw [if_neg c15] at H
      exact absurd H (by simp)
   ·rw [if_neg c4] at H
    have c4b0 := decide_eq_false c4
    clear c4
    obtain ⟨ji21, hji21⟩ : ∃ j_ : Int, (mn x6_1 (l0.length : Int)) = j_ := ⟨_, rfl⟩
    replace H : ((runs_change.f k1 l0 (ji21) a2).bind fun t214 => (some (ji21, t214))) = some (r1, r2) := by first | (rw [hji21] at H; exact H) | (simp only [hji21] at H ⊢; exact H)
    have hji21_ : (if (l0.length : Int) < x6_1 then (l0.length : Int) else x6_1) = ji21 := hji21
    replace H := Option.bind_eq_some_iff.mp H
    obtain ⟨t214, A220, H⟩ := H
    replace H : (some (ji21, t214)) = some (r1, r2) := H
    have A22 := Aside0.mk A220
    clear A220
    simp only [Option.some.injEq, Prod.mk.injEq] at H
    obtain ⟨rfl, rfl⟩ := H
    go_wp2_with (first | ((with_reducible refine gf 67 rfl ?_); refine goesL_ (some 43) rfl rfl Tryd.func67 (by kernel_rfl) rfl #[.slice A0 l0.length c0, .int .i64 ji21, .int .u8 a2] rfl (by (try simp only [List.map_toArray, List.map_cons, List.map_nil]); first | done | (simp only [hji21]; rfl) | rfl | (simp only [List.length_drop, List.length_take]; rfl)) ?_; (with_reducible refine (runs_change.calls k1 _ _ l0 ji21 a2 t214 _ ?side1 ?side2 A22.out).mono ?_); (case side1 => exact cU (Kd.C_below HR0.out HB.out)); (case side2 => exact HC0.out); rintro e w23 ⟨rfl, hb⟩; refine ⟨_, rfl, ?_⟩; have n_ := aE (bs hb); clear HB; have HB := n_; clear n_; (try clear hb)))
    go_ret2
    exact ⟨by first | rfl | (simp [errW_none, errW_some] <;> rfl) | (simp only [← hji21]; first | rfl | (simp [errW_none, errW_some] <;> rfl)) | (simp [*, errW_none, errW_some] <;> rfl), bl⟩

/-! ### runs_modes: function 41 -/
mutual
def runs_modes.l0 : Nat → List Int → List Int → List (S69) → Int → Int → Int → Option ((List (S69)))
 | 0, _, _, _, _, _, _ => none
 | k + 1, x0, x1, x5, x6, x7, x8 => if x6 < x8 then (runs_modes.j1 k x0 x1 x5 x6 x7 x8 (decide (x8 > 0))) else (runs_modes.j1 k x0 x1 x5 x6 x7 x8 false)
def runs_modes.j1 : Nat → List Int → List Int → List (S69) → Int → Int → Int → Bool → Option ((List (S69)))
 | 0, _, _, _, _, _, _, _ => none
 | k + 1, x0, x1, x5, x6, x7, x8, x21 => if x21 = true then ((runs_marks.f k x0 x6 x7).bind fun bt220 => ((runs_change.f k x1 x6 ((1 - x7) % 256)).bind fun t222 => (if bt220.2 < t222 then (if x5.length < 2932031007402 then (runs_modes.l0 k x0 x1 (x5 ++ [(⟨(⟨#[112, 97, 115, 115]⟩ : ByteArray), 0, (⟨0, 0⟩ : S67), 0⟩ : S69)]) bt220.2 x7 x8) else (none)) else (if (wrap64 (t222 - bt220.1)) ≥ (-3) then (if (wrap64 (t222 - bt220.1)) ≤ 3 then (if x5.length < 2932031007402 then (runs_modes.l0 k x0 x1 (x5 ++ [(⟨(⟨#[117, 112]⟩ : ByteArray), wrap64 (t222 - bt220.1), (⟨0, 0⟩ : S67), 0⟩ : S69)]) t222 ((1 - x7) % 256) x8) else (none)) else ((runs_change.f k x1 t222 x7).bind fun t229 => (if x5.length < 2932031007402 then (runs_modes.l0 k x0 x1 (x5 ++ [(⟨(⟨#[102, 108, 97, 116]⟩ : ByteArray), 0, (⟨wrap64 (t222 - (mx x6 0)), wrap64 (t229 - t222)⟩ : S67), wrap64 (x7)⟩ : S69)]) t229 x7 x8) else (none)))) else ((runs_change.f k x1 t222 x7).bind fun t233 => (if x5.length < 2932031007402 then (runs_modes.l0 k x0 x1 (x5 ++ [(⟨(⟨#[102, 108, 97, 116]⟩ : ByteArray), 0, (⟨wrap64 (t222 - (mx x6 0)), wrap64 (t233 - t222)⟩ : S67), wrap64 (x7)⟩ : S69)]) t233 x7 x8) else (none))))))) else (some x5)
end
def runs_modes.f (k : Nat) (l0 : List Int) (l1 : List Int) : Option ((List (S69))) := runs_modes.l0 k l0 l1 ([] : List (S69)) (-1) 0 (l1.length : Int)
theorem runs_modes.mono_l : ∀ k, (∀ y0 y1 y2 y3 y4 y5, LeO (runs_modes.l0 k y0 y1 y2 y3 y4 y5) (runs_modes.l0 (k + 1) y0 y1 y2 y3 y4 y5)) ∧ (∀ y0 y1 y2 y3 y4 y5 y6, LeO (runs_modes.j1 k y0 y1 y2 y3 y4 y5 y6) (runs_modes.j1 (k + 1) y0 y1 y2 y3 y4 y5 y6))
 | 0 => ⟨fun _ _ _ _ _ _ r h => by simp [runs_modes.l0] at h, fun _ _ _ _ _ _ _ r h => by simp [runs_modes.j1] at h⟩
 | k + 1 => by
  obtain ⟨ih0, ih1⟩ := runs_modes.mono_l k
  refine ⟨?_, ?_⟩
  ·intro y0 y1 y2 y3 y4 y5
   unfold runs_modes.l0
   repeat' first
   | (with_reducible exact ih0 _ _ _ _ _ _)
   | (with_reducible exact ih1 _ _ _ _ _ _ _)
   | (with_reducible exact runs_change.mono _ _ _ _)
   | (with_reducible exact runs_marks.mono _ _ _ _)
   | (with_reducible first | exact LeO.refl _ | exact LeO.none _ | refine LeO.ite ?_ ?_ | refine LeO.bind ?_ (fun _ => ?_))
   | exact ih0 _ _ _ _ _ _
   | exact ih1 _ _ _ _ _ _ _
   | exact runs_change.mono _ _ _ _
   | exact runs_marks.mono _ _ _ _
   | exact LeO.none _ | refine LeO.ite ?_ ?_ | refine LeO.bind ?_ (fun _ => ?_)
  ·intro y0 y1 y2 y3 y4 y5 y6
   unfold runs_modes.j1
   repeat' first
   | (with_reducible exact ih0 _ _ _ _ _ _)
   | (with_reducible exact ih1 _ _ _ _ _ _ _)
   | (with_reducible exact runs_change.mono _ _ _ _)
   | (with_reducible exact runs_marks.mono _ _ _ _)
   | (with_reducible first | exact LeO.refl _ | exact LeO.none _ | refine LeO.ite ?_ ?_ | refine LeO.bind ?_ (fun _ => ?_))
   | exact ih0 _ _ _ _ _ _
   | exact ih1 _ _ _ _ _ _ _
   | exact runs_change.mono _ _ _ _
   | exact runs_marks.mono _ _ _ _
   | exact LeO.none _ | refine LeO.ite ?_ ?_ | refine LeO.bind ?_ (fun _ => ?_)
theorem runs_modes.mono : ∀ a0 a1 k, LeO (runs_modes.f k a0 a1) (runs_modes.f (k + 1) a0 a1) := by
 intro a0 a1 k
 obtain ⟨ih0, ih1⟩ := runs_modes.mono_l k
 unfold runs_modes.f
 repeat' first
   | (with_reducible exact ih0 _ _ _ _ _ _)
   | (with_reducible exact ih1 _ _ _ _ _ _ _)
   | (with_reducible exact runs_change.mono _ _ _ _)
   | (with_reducible exact runs_marks.mono _ _ _ _)
   | (with_reducible first | exact LeO.refl _ | exact LeO.none _ | refine LeO.ite ?_ ?_ | refine LeO.bind ?_ (fun _ => ?_))
   | exact ih0 _ _ _ _ _ _
   | exact ih1 _ _ _ _ _ _ _
   | exact runs_change.mono _ _ _ _
   | exact runs_marks.mono _ _ _ _
   | exact LeO.none _ | refine LeO.ite ?_ ?_ | refine LeO.bind ?_ (fun _ => ?_)
set_option maxHeartbeats 8000000 in
set_option maxRecDepth 100000 in
theorem runs_modes.calls (k : Nat) (A0 : Option Addr) (c0 : Nat) (l0 : List Int) (A1 : Option Addr) (c1 : Nat) (l1 : List Int) (r : List (S69)) (w : World) (hr0 : Kd.C (Kd.int .u8) w A0 l0.length l0) (hc0 : l0.length ≤ c0) (hr1 : Kd.C (Kd.int .u8) w A1 l1.length l1) (hc1 : l1.length ≤ c1) (h : runs_modes.f k l0 l1 = some r) :
  Calls Tryd.prog 41 #[.slice A0 l0.length c0, .slice A1 l1.length c1] w fun e w' => ∃ v0_ : Value, e = .returned (v0_) ∧ Kd.R k69 69 w' w.heap.size (fun _ => True) v0_ r ∧ Below w.heap.size w w' := by
 have hu69 := Tryd.underlying69
 have hu67 := Tryd.underlying67
 have HR0 := Aside0.mk hr0
 have HC0 := Aside0.mk hc0
 clear hr0 hc0
 have HR1 := Aside0.mk hr1
 have HC1 := Aside0.mk hc1
 clear hr1 hc1
 have HB := Aside0.mk (Below.refl w.heap.size w)
 have H : (runs_modes.l0 k l0 l1 ([] : List (S69)) (-1) 0 (l1.length : Int)) = some r := h
 clear h
 have H' := Aside0.mk H
 clear H
 go_enter Tryd.func41, Tryd.ntmps41
 go_wp2
 go_loopg [5, 6, 7] k (fun kq v5 v6 v7 w' => ∃ (x5_1 : List (S69)) (x6_1 : Int) (x7_1 : Int), v6 = .int .i64 x6_1 ∧ v7 = .int .u8 x7_1 ∧ Aside0 (runs_modes.l0 kq l0 l1 x5_1 x6_1 x7_1 (l1.length : Int) = some r) ∧ Aside0 (kq ≤ k) ∧ Aside0 (Kd.R k69 69 w' w.heap.size (fun _ => True) v5 x5_1) ∧ Aside0 (Below w.heap.size w w'))
 case atStart => exact ⟨(([] : List (S69))), ((-1)), (0), rq, rq, H', ⟨Nat.le_refl _⟩, ⟨by first | exact Kd.R_nil _ _ _ _ _ | exact Kd.N_nil _ _ _ _ _ | exact Kd.V_nil _ _ _ _ _ | exact Kd.Q_nil _ _ _ _ _ | exact Kd.S_nil _ _ _ _ _⟩, ⟨bl⟩⟩
 case round =>
  clear H'
  try clear c1
  obtain ⟨x5_1, x6_1, x7_1, rfl, rfl, HA, HK1, HO_5, HB⟩ := hrel
  cases gk with
  | zero => exact absurd HA.out (by simp [runs_modes.l0])
  | succ k1 =>
   have H := HA.out
   clear HA
   simp only [runs_modes.l0] at H
   have HC3 := Aside0.mk H
   clear H
   go_upto_region 4 with (fail)
   go_cut [21] (fun v21 wc => ∃ (kq : Nat) (x21_2 : Bool), v21 = .bool x21_2 ∧ Aside0 (runs_modes.j1 kq l0 l1 x5_1 x6_1 x7_1 (l1.length : Int) x21_2 = some r) ∧ Aside0 (kq ≤ k1) ∧ Aside0 (Kd.R k69 69 wc w.heap.size (fun _ => True) u5 x5_1) ∧ Aside0 (Below w.heap.size w wc))
   case first =>
    have H := HC3.out
    clear HC3
    by_cases c4 : x6_1 < (l1.length : Int)
    ·rw [if_pos c4] at H
     have c4b0 := decide_eq_true c4
     clear c4
     (first | rw [c4b0] | (simp only [i64_w, i32_w]; rw [c4b0]) | skip)
     have H' := Aside0.mk H
     clear H
     go_wp2
     go_meet
     case rel => exact ⟨_, (decide ((l1.length : Int) > 0)), rq, H', ⟨by have := HK1.out; first | omega | exact Nat.le_refl _⟩, ⟨rU HO_5.out⟩, ⟨bl⟩⟩
    ·rw [if_neg c4] at H
     have c4b0 := decide_eq_false c4
     clear c4
     (first | rw [c4b0] | (simp only [i64_w, i32_w]; rw [c4b0]) | skip)
     have H' := Aside0.mk H
     clear H
     go_wp2
     go_meet
     case rel => exact ⟨_, (false), rq, H', ⟨by have := HK1.out; first | omega | exact Nat.le_refl _⟩, ⟨rU HO_5.out⟩, ⟨bl⟩⟩
   case rest =>
    clear HC3
    try clear c1
    obtain ⟨kq, x21_2, rfl, HA, HJ2, HO_5, HB⟩ := hcut
    cases kq with
    | zero => exact absurd HA.out (by simp [runs_modes.j1])
    | succ kj2 =>
     have H := HA.out
     clear HA
     simp only [runs_modes.j1] at H
     by_cases c5 : x21_2 = true
     ·subst c5
      have H1 : ((runs_marks.f kj2 l0 x6_1 x7_1).bind fun bt220 => ((runs_change.f kj2 l1 x6_1 ((1 - x7_1) % 256)).bind fun t222 => (if bt220.2 < t222 then (if x5_1.length < 2932031007402 then (runs_modes.l0 kj2 l0 l1 (x5_1 ++ [(⟨(⟨#[112, 97, 115, 115]⟩ : ByteArray), 0, (⟨0, 0⟩ : S67), 0⟩ : S69)]) bt220.2 x7_1 (l1.length : Int)) else (none)) else (if (wrap64 (t222 - bt220.1)) ≥ (-3) then (if (wrap64 (t222 - bt220.1)) ≤ 3 then (if x5_1.length < 2932031007402 then (runs_modes.l0 kj2 l0 l1 (x5_1 ++ [(⟨(⟨#[117, 112]⟩ : ByteArray), wrap64 (t222 - bt220.1), (⟨0, 0⟩ : S67), 0⟩ : S69)]) t222 ((1 - x7_1) % 256) (l1.length : Int)) else (none)) else ((runs_change.f kj2 l1 t222 x7_1).bind fun t229 => (if x5_1.length < 2932031007402 then (runs_modes.l0 kj2 l0 l1 (x5_1 ++ [(⟨(⟨#[102, 108, 97, 116]⟩ : ByteArray), 0, (⟨wrap64 (t222 - (mx x6_1 0)), wrap64 (t229 - t222)⟩ : S67), wrap64 (x7_1)⟩ : S69)]) t229 x7_1 (l1.length : Int)) else (none)))) else ((runs_change.f kj2 l1 t222 x7_1).bind fun t233 => (if x5_1.length < 2932031007402 then (runs_modes.l0 kj2 l0 l1 (x5_1 ++ [(⟨(⟨#[102, 108, 97, 116]⟩ : ByteArray), 0, (⟨wrap64 (t222 - (mx x6_1 0)), wrap64 (t233 - t222)⟩ : S67), wrap64 (x7_1)⟩ : S69)]) t233 x7_1 (l1.length : Int)) else (none))))))) = some r := by rw [if_pos rfl] at H; exact H
      clear H
      have H := H1
      clear H1
      replace H := Option.bind_eq_some_iff.mp H
      obtain ⟨⟨t220, t221⟩, A60, H⟩ := H
      replace H : ((runs_change.f kj2 l1 x6_1 ((1 - x7_1) % 256)).bind fun t222 => (if t221 < t222 then (if x5_1.length < 2932031007402 then (runs_modes.l0 kj2 l0 l1 (x5_1 ++ [(⟨(⟨#[112, 97, 115, 115]⟩ : ByteArray), 0, (⟨0, 0⟩ : S67), 0⟩ : S69)]) t221 x7_1 (l1.length : Int)) else (none)) else (if (wrap64 (t222 - t220)) ≥ (-3) then (if (wrap64 (t222 - t220)) ≤ 3 then (if x5_1.length < 2932031007402 then (runs_modes.l0 kj2 l0 l1 (x5_1 ++ [(⟨(⟨#[117, 112]⟩ : ByteArray), wrap64 (t222 - t220), (⟨0, 0⟩ : S67), 0⟩ : S69)]) t222 ((1 - x7_1) % 256) (l1.length : Int)) else (none)) else ((runs_change.f kj2 l1 t222 x7_1).bind fun t229 => (if x5_1.length < 2932031007402 then (runs_modes.l0 kj2 l0 l1 (x5_1 ++ [(⟨(⟨#[102, 108, 97, 116]⟩ : ByteArray), 0, (⟨wrap64 (t222 - (mx x6_1 0)), wrap64 (t229 - t222)⟩ : S67), wrap64 (x7_1)⟩ : S69)]) t229 x7_1 (l1.length : Int)) else (none)))) else ((runs_change.f kj2 l1 t222 x7_1).bind fun t233 => (if x5_1.length < 2932031007402 then (runs_modes.l0 kj2 l0 l1 (x5_1 ++ [(⟨(⟨#[102, 108, 97, 116]⟩ : ByteArray), 0, (⟨wrap64 (t222 - (mx x6_1 0)), wrap64 (t233 - t222)⟩ : S67), wrap64 (x7_1)⟩ : S69)]) t233 x7_1 (l1.length : Int)) else (none)))))) = some r := H
      have A6 := Aside0.mk A60
      clear A60
      replace H := Option.bind_eq_some_iff.mp H
      obtain ⟨t222, A70, H⟩ := H
      replace H : (if t221 < t222 then (if x5_1.length < 2932031007402 then (runs_modes.l0 kj2 l0 l1 (x5_1 ++ [(⟨(⟨#[112, 97, 115, 115]⟩ : ByteArray), 0, (⟨0, 0⟩ : S67), 0⟩ : S69)]) t221 x7_1 (l1.length : Int)) else (none)) else (if (wrap64 (t222 - t220)) ≥ (-3) then (if (wrap64 (t222 - t220)) ≤ 3 then (if x5_1.length < 2932031007402 then (runs_modes.l0 kj2 l0 l1 (x5_1 ++ [(⟨(⟨#[117, 112]⟩ : ByteArray), wrap64 (t222 - t220), (⟨0, 0⟩ : S67), 0⟩ : S69)]) t222 ((1 - x7_1) % 256) (l1.length : Int)) else (none)) else ((runs_change.f kj2 l1 t222 x7_1).bind fun t229 => (if x5_1.length < 2932031007402 then (runs_modes.l0 kj2 l0 l1 (x5_1 ++ [(⟨(⟨#[102, 108, 97, 116]⟩ : ByteArray), 0, (⟨wrap64 (t222 - (mx x6_1 0)), wrap64 (t229 - t222)⟩ : S67), wrap64 (x7_1)⟩ : S69)]) t229 x7_1 (l1.length : Int)) else (none)))) else ((runs_change.f kj2 l1 t222 x7_1).bind fun t233 => (if x5_1.length < 2932031007402 then (runs_modes.l0 kj2 l0 l1 (x5_1 ++ [(⟨(⟨#[102, 108, 97, 116]⟩ : ByteArray), 0, (⟨wrap64 (t222 - (mx x6_1 0)), wrap64 (t233 - t222)⟩ : S67), wrap64 (x7_1)⟩ : S69)]) t233 x7_1 (l1.length : Int)) else (none))))) = some r := H
      have A7 := Aside0.mk A70
      clear A70
      by_cases c8 : t221 < t222
      ·rw [if_pos c8] at H
       have c8b0 := decide_eq_true c8
       clear c8
       by_cases c9 : x5_1.length < 2932031007402
       ·rw [if_pos c9] at H
        have LMc9 := Aside0.mk c9
        clear c9
        obtain ⟨y223, hy_⟩ : ∃ y_ : List (S69), y_ = (x5_1 ++ [(⟨(⟨#[112, 97, 115, 115]⟩ : ByteArray), 0, (⟨0, 0⟩ : S67), 0⟩ : S69)]) := ⟨_, rfl⟩
        replace H : (runs_modes.l0 kj2 l0 l1 y223 t221 x7_1 (l1.length : Int)) = some r := rh
        have Ny223 := aE hy_
        clear hy_
        have H' := Aside0.mk H
        clear H
        go_wp2_with (first | ((with_reducible refine gf 66 rfl ?_); refine gL (some 26) rfl rfl Tryd.func66 rfl #[.slice A0 l0.length c0, .int .i64 x6_1, .int .u8 x7_1] rfl ?_; (with_reducible refine (runs_marks.calls kj2 _ _ l0 x6_1 x7_1 t220 t221 _ ?side1 ?side2 A6.out).mono ?_); (case side1 => exact cU (Kd.C_below HR0.out HB.out)); (case side2 => exact HC0.out); rintro e w10 ⟨rfl, hb⟩; refine ⟨_, rfl, ?_⟩; have n_ := aC (Kd.R_below (rU HO_5.out) hb) (aE (bs hb)); clear HO_5 HB; obtain ⟨HO_5, HB⟩ := n_; (try clear hb)) | ((with_reducible refine gf 67 rfl ?_); refine gL (some 33) rfl rfl Tryd.func67 rfl #[.slice A1 l1.length c1, .int .i64 x6_1, .int .u8 ((1 - x7_1) % 256)] rfl ?_; (with_reducible refine (runs_change.calls kj2 _ _ l1 x6_1 ((1 - x7_1) % 256) t222 _ ?side1 ?side2 A7.out).mono ?_); (case side1 => exact cU (Kd.C_below HR1.out HB.out)); (case side2 => exact HC1.out); rintro e w11 ⟨rfl, hb⟩; refine ⟨_, rfl, ?_⟩; have n_ := aC (Kd.R_below (rU HO_5.out) hb) (aE (bs hb)); clear HO_5 HB; obtain ⟨HO_5, HB⟩ := n_; (try clear hb)) | ((with_reducible refine gate_builtin (b := .append) (xs := #[.tmp 57, .tmp 59]) rfl ?_); at_builtin; refine Kd.R_append k69 (w0 := w) w.heap.size rfl (.tmp 57) (.tmp 59) 65 69 (.agg #[(.string ⟨#[]⟩), (.int .i64 0), (.int .i64 0), (.int .i64 0), (.int .i64 0)]) 48 rfl Tryd.underlying65 info69 rfl (by decide) (by omega) u5 x5_1 (⟨(⟨#[112, 97, 115, 115]⟩ : ByteArray), 0, (⟨0, 0⟩ : S67), 0⟩ : S69) [.string (⟨#[112, 97, 115, 115]⟩ : ByteArray), .int .i64 0, .int .i64 0, .int .i64 0, .int .i64 0] (fun _ => True) (fun _ => False) rfl rfl ?aP (fun _ hk => hk.elim) ?aF ?aO ?aB ?aS ?aL ?_; (case aP => exact k69_mkM _ _ _ (⟨(⟨#[112, 97, 115, 115]⟩ : ByteArray), 0, (⟨0, 0⟩ : S67), 0⟩ : S69)); (case aB => exact bl); (case aF => exact (fun _ _ => trivial)); (case aO => exact (rU HO_5.out)); (case aS => exact bz); (case aL => have := LMc9.out; omega); intro v224 w12 ho hb hg hat; rw [← Ny223.out] at ho; have n_ := aC hb (aE ho); clear HB HO_5; obtain ⟨HB, HO225⟩ := n_; clear ho hb hg hat))
        go_roundg kj2
        case measure => have := HK1.out; have := HJ2.out; omega
        case rel => exact ⟨(y223), (t221), (x7_1), rq, rq, H', ⟨by have := HK1.out; have := HJ2.out; omega⟩, ⟨rU HO225.out⟩, ⟨bl⟩⟩
       ·rw [if_neg c9] at H
        exact absurd H (by simp)
      ·rw [if_neg c8] at H
       have c8b0 := decide_eq_false c8
       clear c8
       by_cases c13 : (wrap64 (t222 - t220)) ≥ (-3)
       ·rw [if_pos c13] at H
        have c13b0 := decide_eq_true c13
        clear c13
        by_cases c14 : (wrap64 (t222 - t220)) ≤ 3
        ·rw [if_pos c14] at H
         have c14b0 := decide_eq_true c14
         clear c14
         by_cases c15 : x5_1.length < 2932031007402
         ·rw [if_pos c15] at H
          have LMc15 := Aside0.mk c15
          clear c15
          obtain ⟨y226, hy_⟩ : ∃ y_ : List (S69), y_ = (x5_1 ++ [(⟨(⟨#[117, 112]⟩ : ByteArray), wrap64 (t222 - t220), (⟨0, 0⟩ : S67), 0⟩ : S69)]) := ⟨_, rfl⟩
          replace H : (runs_modes.l0 kj2 l0 l1 y226 t222 ((1 - x7_1) % 256) (l1.length : Int)) = some r := rh
          have Ny226 := aE hy_
          clear hy_
          have H' := Aside0.mk H
          clear H
          go_wp2_with (first | ((with_reducible refine gf 66 rfl ?_); refine gL (some 26) rfl rfl Tryd.func66 rfl #[.slice A0 l0.length c0, .int .i64 x6_1, .int .u8 x7_1] rfl ?_; (with_reducible refine (runs_marks.calls kj2 _ _ l0 x6_1 x7_1 t220 t221 _ ?side1 ?side2 A6.out).mono ?_); (case side1 => exact cU (Kd.C_below HR0.out HB.out)); (case side2 => exact HC0.out); rintro e w16 ⟨rfl, hb⟩; refine ⟨_, rfl, ?_⟩; have n_ := aC (Kd.R_below (rU HO_5.out) hb) (aE (bs hb)); clear HO_5 HB; obtain ⟨HO_5, HB⟩ := n_; (try clear hb)) | ((with_reducible refine gf 67 rfl ?_); refine gL (some 33) rfl rfl Tryd.func67 rfl #[.slice A1 l1.length c1, .int .i64 x6_1, .int .u8 ((1 - x7_1) % 256)] rfl ?_; (with_reducible refine (runs_change.calls kj2 _ _ l1 x6_1 ((1 - x7_1) % 256) t222 _ ?side1 ?side2 A7.out).mono ?_); (case side1 => exact cU (Kd.C_below HR1.out HB.out)); (case side2 => exact HC1.out); rintro e w17 ⟨rfl, hb⟩; refine ⟨_, rfl, ?_⟩; have n_ := aC (Kd.R_below (rU HO_5.out) hb) (aE (bs hb)); clear HO_5 HB; obtain ⟨HO_5, HB⟩ := n_; (try clear hb)) | ((with_reducible refine gate_builtin (b := .append) (xs := #[.tmp 73, .tmp 78]) rfl ?_); at_builtin; refine Kd.R_append k69 (w0 := w) w.heap.size rfl (.tmp 73) (.tmp 78) 65 69 (.agg #[(.string ⟨#[]⟩), (.int .i64 0), (.int .i64 0), (.int .i64 0), (.int .i64 0)]) 48 rfl Tryd.underlying65 info69 rfl (by decide) (by omega) u5 x5_1 (⟨(⟨#[117, 112]⟩ : ByteArray), wrap64 (t222 - t220), (⟨0, 0⟩ : S67), 0⟩ : S69) [.string (⟨#[117, 112]⟩ : ByteArray), .int .i64 (wrap64 (t222 - t220)), .int .i64 0, .int .i64 0, .int .i64 0] (fun _ => True) (fun _ => False) rfl rfl ?aP (fun _ hk => hk.elim) ?aF ?aO ?aB ?aS ?aL ?_; (case aP => exact k69_mkM _ _ _ (⟨(⟨#[117, 112]⟩ : ByteArray), wrap64 (t222 - t220), (⟨0, 0⟩ : S67), 0⟩ : S69)); (case aB => exact bl); (case aF => exact (fun _ _ => trivial)); (case aO => exact (rU HO_5.out)); (case aS => exact bz); (case aL => have := LMc15.out; omega); intro v227 w18 ho hb hg hat; rw [← Ny226.out] at ho; have n_ := aC hb (aE ho); clear HB HO_5; obtain ⟨HB, HO228⟩ := n_; clear ho hb hg hat))
          go_roundg kj2
          case measure => have := HK1.out; have := HJ2.out; omega
          case rel => exact ⟨(y226), (t222), ((1 - x7_1) % 256), rq, rq, H', ⟨by have := HK1.out; have := HJ2.out; omega⟩, ⟨rU HO228.out⟩, ⟨bl⟩⟩
         ·rw [if_neg c15] at H
          exact absurd H (by simp)
        ·rw [if_neg c14] at H
         have c14b0 := decide_eq_false c14
         clear c14
         replace H := Option.bind_eq_some_iff.mp H
         obtain ⟨t229, A190, H⟩ := H
         replace H : (if x5_1.length < 2932031007402 then (runs_modes.l0 kj2 l0 l1 (x5_1 ++ [(⟨(⟨#[102, 108, 97, 116]⟩ : ByteArray), 0, (⟨wrap64 (t222 - (mx x6_1 0)), wrap64 (t229 - t222)⟩ : S67), wrap64 (x7_1)⟩ : S69)]) t229 x7_1 (l1.length : Int)) else (none)) = some r := H
         have A19 := Aside0.mk A190
         clear A190
         obtain ⟨ji20, hji20⟩ : ∃ j_ : Int, (mx x6_1 0) = j_ := ⟨_, rfl⟩
         replace H : (if x5_1.length < 2932031007402 then (runs_modes.l0 kj2 l0 l1 (x5_1 ++ [(⟨(⟨#[102, 108, 97, 116]⟩ : ByteArray), 0, (⟨wrap64 (t222 - (ji20)), wrap64 (t229 - t222)⟩ : S67), wrap64 (x7_1)⟩ : S69)]) t229 x7_1 (l1.length : Int)) else (none)) = some r := by first | (rw [hji20] at H; exact H) | (simp only [hji20] at H ⊢; exact H)
         (try rw [hji20] at A6)
         (try rw [hji20] at A7)
         (try rw [hji20] at A19)
         have hji20_ : (if x6_1 < 0 then 0 else x6_1) = ji20 := hji20
         by_cases c21 : x5_1.length < 2932031007402
         ·rw [if_pos c21] at H
          have LMc21 := Aside0.mk c21
          clear c21
          obtain ⟨y230, hy_⟩ : ∃ y_ : List (S69), y_ = (x5_1 ++ [(⟨(⟨#[102, 108, 97, 116]⟩ : ByteArray), 0, (⟨wrap64 (t222 - (ji20)), wrap64 (t229 - t222)⟩ : S67), wrap64 (x7_1)⟩ : S69)]) := ⟨_, rfl⟩
          replace H : (runs_modes.l0 kj2 l0 l1 y230 t229 x7_1 (l1.length : Int)) = some r := rh
          have Ny230 := aE hy_
          clear hy_
          have H' := Aside0.mk H
          clear H
          go_wp2_with (first | ((with_reducible refine gf 66 rfl ?_); refine gL (some 26) rfl rfl Tryd.func66 rfl #[.slice A0 l0.length c0, .int .i64 x6_1, .int .u8 x7_1] rfl ?_; (with_reducible refine (runs_marks.calls kj2 _ _ l0 x6_1 x7_1 t220 t221 _ ?side1 ?side2 A6.out).mono ?_); (case side1 => exact cU (Kd.C_below HR0.out HB.out)); (case side2 => exact HC0.out); rintro e w22 ⟨rfl, hb⟩; refine ⟨_, rfl, ?_⟩; have n_ := aC (Kd.R_below (rU HO_5.out) hb) (aE (bs hb)); clear HO_5 HB; obtain ⟨HO_5, HB⟩ := n_; (try clear hb)) | ((with_reducible refine gf 67 rfl ?_); refine gL (some 33) rfl rfl Tryd.func67 rfl #[.slice A1 l1.length c1, .int .i64 x6_1, .int .u8 ((1 - x7_1) % 256)] rfl ?_; (with_reducible refine (runs_change.calls kj2 _ _ l1 x6_1 ((1 - x7_1) % 256) t222 _ ?side1 ?side2 A7.out).mono ?_); (case side1 => exact cU (Kd.C_below HR1.out HB.out)); (case side2 => exact HC1.out); rintro e w23 ⟨rfl, hb⟩; refine ⟨_, rfl, ?_⟩; have n_ := aC (Kd.R_below (rU HO_5.out) hb) (aE (bs hb)); clear HO_5 HB; obtain ⟨HO_5, HB⟩ := n_; (try clear hb)) | ((with_reducible refine gf 67 rfl ?_); refine gL (some 37) rfl rfl Tryd.func67 rfl #[.slice A1 l1.length c1, .int .i64 t222, .int .u8 x7_1] rfl ?_; (with_reducible refine (runs_change.calls kj2 _ _ l1 t222 x7_1 t229 _ ?side1 ?side2 A19.out).mono ?_); (case side1 => exact cU (Kd.C_below HR1.out HB.out)); (case side2 => exact HC1.out); rintro e w24 ⟨rfl, hb⟩; refine ⟨_, rfl, ?_⟩; have n_ := aC (Kd.R_below (rU HO_5.out) hb) (aE (bs hb)); clear HO_5 HB; obtain ⟨HO_5, HB⟩ := n_; (try clear hb)) | ((with_reducible refine gate_builtin (b := .append) (xs := #[.tmp 38, .tmp 50]) rfl ?_); at_builtin; refine Kd.R_append k69 (w0 := w) w.heap.size rfl (.tmp 38) (.tmp 50) 65 69 (.agg #[(.string ⟨#[]⟩), (.int .i64 0), (.int .i64 0), (.int .i64 0), (.int .i64 0)]) 48 rfl Tryd.underlying65 info69 rfl (by decide) (by omega) u5 x5_1 (⟨(⟨#[102, 108, 97, 116]⟩ : ByteArray), 0, (⟨wrap64 (t222 - (ji20)), wrap64 (t229 - t222)⟩ : S67), wrap64 (x7_1)⟩ : S69) [.string (⟨#[102, 108, 97, 116]⟩ : ByteArray), .int .i64 0, .int .i64 (wrap64 (t222 - (ji20))), .int .i64 (wrap64 (t229 - t222)), .int .i64 (wrap64 (x7_1))] (fun _ => True) (fun _ => False) rfl rfl ?aP (fun _ hk => hk.elim) ?aF ?aO ?aB ?aS ?aL ?_; (case aP => exact k69_mkM _ _ _ (⟨(⟨#[102, 108, 97, 116]⟩ : ByteArray), 0, (⟨wrap64 (t222 - (ji20)), wrap64 (t229 - t222)⟩ : S67), wrap64 (x7_1)⟩ : S69)); (case aB => exact bl); (case aF => exact (fun _ _ => trivial)); (case aO => exact (rU HO_5.out)); (case aS => exact bz); (case aL => have := LMc21.out; omega); intro v231 w25 ho hb hg hat; rw [← Ny230.out] at ho; have n_ := aC hb (aE ho); clear HB HO_5; obtain ⟨HB, HO232⟩ := n_; clear ho hb hg hat))
          go_roundg kj2
          case measure => have := HK1.out; have := HJ2.out; omega
          case rel => exact ⟨(y230), (t229), (x7_1), rq, rq, H', ⟨by have := HK1.out; have := HJ2.out; omega⟩, ⟨rU HO232.out⟩, ⟨bl⟩⟩
         ·rw [if_neg c21] at H
          exact absurd H (by simp)
       ·rw [if_neg c13] at H
        have c13b0 := decide_eq_false c13
        clear c13
        replace H := Option.bind_eq_some_iff.mp H
        obtain ⟨t233, A260, H⟩ := H
        replace H : (if x5_1.length < 2932031007402 then (runs_modes.l0 kj2 l0 l1 (x5_1 ++ [(⟨(⟨#[102, 108, 97, 116]⟩ : ByteArray), 0, (⟨wrap64 (t222 - (mx x6_1 0)), wrap64 (t233 - t222)⟩ : S67), wrap64 (x7_1)⟩ : S69)]) t233 x7_1 (l1.length : Int)) else (none)) = some r := H
        have A26 := Aside0.mk A260
        clear A260
        obtain ⟨ji27, hji27⟩ : ∃ j_ : Int, (mx x6_1 0) = j_ := ⟨_, rfl⟩
        replace H : (if x5_1.length < 2932031007402 then (runs_modes.l0 kj2 l0 l1 (x5_1 ++ [(⟨(⟨#[102, 108, 97, 116]⟩ : ByteArray), 0, (⟨wrap64 (t222 - (ji27)), wrap64 (t233 - t222)⟩ : S67), wrap64 (x7_1)⟩ : S69)]) t233 x7_1 (l1.length : Int)) else (none)) = some r := by first | (rw [hji27] at H; exact H) | (simp only [hji27] at H ⊢; exact H)
        (try rw [hji27] at A6)
        (try rw [hji27] at A7)
        (try rw [hji27] at A26)
        have hji27_ : (if x6_1 < 0 then 0 else x6_1) = ji27 := hji27
        by_cases c28 : x5_1.length < 2932031007402
        ·rw [if_pos c28] at H
         have LMc28 := Aside0.mk c28
         clear c28
         obtain ⟨y234, hy_⟩ : ∃ y_ : List (S69), y_ = (x5_1 ++ [(⟨(⟨#[102, 108, 97, 116]⟩ : ByteArray), 0, (⟨wrap64 (t222 - (ji27)), wrap64 (t233 - t222)⟩ : S67), wrap64 (x7_1)⟩ : S69)]) := ⟨_, rfl⟩
         replace H : (runs_modes.l0 kj2 l0 l1 y234 t233 x7_1 (l1.length : Int)) = some r := rh
         have Ny234 := aE hy_
         clear hy_
         have H' := Aside0.mk H
         clear H
         go_wp2_with (first | ((with_reducible refine gf 66 rfl ?_); refine gL (some 26) rfl rfl Tryd.func66 rfl #[.slice A0 l0.length c0, .int .i64 x6_1, .int .u8 x7_1] rfl ?_; (with_reducible refine (runs_marks.calls kj2 _ _ l0 x6_1 x7_1 t220 t221 _ ?side1 ?side2 A6.out).mono ?_); (case side1 => exact cU (Kd.C_below HR0.out HB.out)); (case side2 => exact HC0.out); rintro e w29 ⟨rfl, hb⟩; refine ⟨_, rfl, ?_⟩; have n_ := aC (Kd.R_below (rU HO_5.out) hb) (aE (bs hb)); clear HO_5 HB; obtain ⟨HO_5, HB⟩ := n_; (try clear hb)) | ((with_reducible refine gf 67 rfl ?_); refine gL (some 33) rfl rfl Tryd.func67 rfl #[.slice A1 l1.length c1, .int .i64 x6_1, .int .u8 ((1 - x7_1) % 256)] rfl ?_; (with_reducible refine (runs_change.calls kj2 _ _ l1 x6_1 ((1 - x7_1) % 256) t222 _ ?side1 ?side2 A7.out).mono ?_); (case side1 => exact cU (Kd.C_below HR1.out HB.out)); (case side2 => exact HC1.out); rintro e w30 ⟨rfl, hb⟩; refine ⟨_, rfl, ?_⟩; have n_ := aC (Kd.R_below (rU HO_5.out) hb) (aE (bs hb)); clear HO_5 HB; obtain ⟨HO_5, HB⟩ := n_; (try clear hb)) | ((with_reducible refine gf 67 rfl ?_); refine gL (some 37) rfl rfl Tryd.func67 rfl #[.slice A1 l1.length c1, .int .i64 t222, .int .u8 x7_1] rfl ?_; (with_reducible refine (runs_change.calls kj2 _ _ l1 t222 x7_1 t233 _ ?side1 ?side2 A26.out).mono ?_); (case side1 => exact cU (Kd.C_below HR1.out HB.out)); (case side2 => exact HC1.out); rintro e w31 ⟨rfl, hb⟩; refine ⟨_, rfl, ?_⟩; have n_ := aC (Kd.R_below (rU HO_5.out) hb) (aE (bs hb)); clear HO_5 HB; obtain ⟨HO_5, HB⟩ := n_; (try clear hb)) | ((with_reducible refine gate_builtin (b := .append) (xs := #[.tmp 38, .tmp 50]) rfl ?_); at_builtin; refine Kd.R_append k69 (w0 := w) w.heap.size rfl (.tmp 38) (.tmp 50) 65 69 (.agg #[(.string ⟨#[]⟩), (.int .i64 0), (.int .i64 0), (.int .i64 0), (.int .i64 0)]) 48 rfl Tryd.underlying65 info69 rfl (by decide) (by omega) u5 x5_1 (⟨(⟨#[102, 108, 97, 116]⟩ : ByteArray), 0, (⟨wrap64 (t222 - (ji27)), wrap64 (t233 - t222)⟩ : S67), wrap64 (x7_1)⟩ : S69) [.string (⟨#[102, 108, 97, 116]⟩ : ByteArray), .int .i64 0, .int .i64 (wrap64 (t222 - (ji27))), .int .i64 (wrap64 (t233 - t222)), .int .i64 (wrap64 (x7_1))] (fun _ => True) (fun _ => False) rfl rfl ?aP (fun _ hk => hk.elim) ?aF ?aO ?aB ?aS ?aL ?_; (case aP => exact k69_mkM _ _ _ (⟨(⟨#[102, 108, 97, 116]⟩ : ByteArray), 0, (⟨wrap64 (t222 - (ji27)), wrap64 (t233 - t222)⟩ : S67), wrap64 (x7_1)⟩ : S69)); (case aB => exact bl); (case aF => exact (fun _ _ => trivial)); (case aO => exact (rU HO_5.out)); (case aS => exact bz); (case aL => have := LMc28.out; omega); intro v235 w32 ho hb hg hat; rw [← Ny234.out] at ho; have n_ := aC hb (aE ho); clear HB HO_5; obtain ⟨HB, HO236⟩ := n_; clear ho hb hg hat))
         go_roundg kj2
         case measure => have := HK1.out; have := HJ2.out; omega
         case rel => exact ⟨(y234), (t233), (x7_1), rq, rq, H', ⟨by have := HK1.out; have := HJ2.out; omega⟩, ⟨rU HO236.out⟩, ⟨bl⟩⟩
        ·rw [if_neg c28] at H
         exact absurd H (by simp)
     ·replace c5 := Bool.eq_false_iff.mpr c5
      subst c5
      have H1 : (some x5_1) = some r := by rw [if_neg (show ¬ (false = true) by decide)] at H; exact H
      clear H
      have H := H1
      clear H1
      obtain rfl := Option.some.inj H
      go_wp2
      go_ret
      exact ⟨_, re, rU HO_5.out, bl⟩

-- NOT PRINTED: function 109 (strconv_small)

-- NOT PRINTED: function 121 (strconv_log10Pow2)

-- NOT PRINTED: function 122 (bits_Len64)

-- NOT PRINTED: function 123 (strconv_bool2_int)

-- NOT PRINTED: function 110 (strconv_numDigits)

-- NOT PRINTED: function 111 (strconv_formatBase10)

-- NOT PRINTED: function 124 (strconv_isPowerOfTwo)

-- NOT PRINTED: function 132 (bits_TrailingZeros32)

-- NOT PRINTED: function 133 (bits_TrailingZeros64)

-- NOT PRINTED: function 125 (bits_TrailingZeros)

-- NOT PRINTED: function 112 (strconv_formatBits)

-- NOT PRINTED: function 90 (strconv_FormatInt)

-- NOT PRINTED: function 68 (strconv_Itoa_68)

/-! ### strconv_Itoa_42: function 42 -/
def strconv_Itoa_42.f (a0 : Int) : Option ByteArray := if -9223372036854775808 ≤ a0 then (if a0 ≤ 9223372036854775807 then some ⟨(itz a0).toArray⟩ else none) else none
theorem strconv_Itoa_42.calls (a0 : Int) (r : ByteArray) (w : World) (hT0 : TIs w) (h : strconv_Itoa_42.f a0 = some r) :
  Calls Tryd.prog 42 #[.int .i64 a0] w fun e w' => e = .returned (.string r) ∧ Below w.heap.size w w' := by
 unfold strconv_Itoa_42.f at h
 split at h
 ·next h0 =>
  split at h
  ·next h1 =>
   obtain rfl := Option.some.inj h
   rw [itz_eq]
   exact itoa_calls a0 h0 h1 w hT0
  ·cases h
 ·cases h

/-! ### runs_Modes: function 16 -/
mutual
def runs_Modes.j0 : Nat → List Int → List Int → Bool → Option (List ByteArray × Int)
 | 0, _, _, _ => none
 | k + 1, x0, x1, x24 => if x24 = true then (some (([] : List ByteArray), 2)) else ((runs_modes.f k x0 x1).bind fun t239 => (runs_Modes.l0 k ([] : List ByteArray) t239 (t239.length : Int) 0))
def runs_Modes.l0 : Nat → List ByteArray → List (S69) → Int → Int → Option (List ByteArray × Int)
 | 0, _, _, _, _ => none
 | k + 1, x6, x27, x28, x29 => if x29 < x28 then (if 0 ≤ x29 then (if x29 < (x27.length : Int) then (if ((rd_T69 x27 x29).f0).toList = ([117, 112] : List UInt8) then ((strconv_Itoa_42.f ((rd_T69 x27 x29).f1)).bind fun t244 => (if ((rd_T69 x27 x29).f0).size + t244.size ≤ 9223372036854775807 then (if x6.length < 8796093022208 then (runs_Modes.l0 k (x6 ++ [((rd_T69 x27 x29).f0) ++ t244]) x27 x28 (wrap64 (x29 + 1))) else (none)) else (none))) else (if x6.length < 8796093022208 then (runs_Modes.l0 k (x6 ++ [(rd_T69 x27 x29).f0]) x27 x28 (wrap64 (x29 + 1))) else (none))) else (none)) else (none)) else (some (x6, 0))
end
def runs_Modes.f (k : Nat) (l0 : List Int) (l1 : List Int) : Option (List ByteArray × Int) := (runs_isRow.f k l0).bind fun t237 => (if t237 = true then ((runs_isRow.f k l1).bind fun t238 => (if t238 = true then (runs_Modes.j0 k l0 l1 ((l0.length : Int) != (l1.length : Int))) else (runs_Modes.j0 k l0 l1 true))) else (runs_Modes.j0 k l0 l1 true))
theorem runs_Modes.mono_l : ∀ k, (∀ y0 y1 y2, LeO (runs_Modes.j0 k y0 y1 y2) (runs_Modes.j0 (k + 1) y0 y1 y2)) ∧ (∀ y0 y1 y2 y3, LeO (runs_Modes.l0 k y0 y1 y2 y3) (runs_Modes.l0 (k + 1) y0 y1 y2 y3))
 | 0 => ⟨fun _ _ _ r h => by simp [runs_Modes.j0] at h, fun _ _ _ _ r h => by simp [runs_Modes.l0] at h⟩
 | k + 1 => by
  obtain ⟨ih0, ih1⟩ := runs_Modes.mono_l k
  refine ⟨?_, ?_⟩
  ·intro y0 y1 y2
   unfold runs_Modes.j0
   repeat' first
   | (with_reducible exact ih0 _ _ _)
   | (with_reducible exact ih1 _ _ _ _)
   | (with_reducible exact runs_isRow.mono _ _)
   | (with_reducible exact runs_modes.mono _ _ _)
   | (with_reducible first | exact LeO.refl _ | exact LeO.none _ | refine LeO.ite ?_ ?_ | refine LeO.bind ?_ (fun _ => ?_))
   | exact ih0 _ _ _
   | exact ih1 _ _ _ _
   | exact runs_isRow.mono _ _
   | exact runs_modes.mono _ _ _
   | exact LeO.none _ | refine LeO.ite ?_ ?_ | refine LeO.bind ?_ (fun _ => ?_)
  ·intro y0 y1 y2 y3
   unfold runs_Modes.l0
   repeat' first
   | (with_reducible exact ih0 _ _ _)
   | (with_reducible exact ih1 _ _ _ _)
   | (with_reducible exact runs_isRow.mono _ _)
   | (with_reducible exact runs_modes.mono _ _ _)
   | (with_reducible first | exact LeO.refl _ | exact LeO.none _ | refine LeO.ite ?_ ?_ | refine LeO.bind ?_ (fun _ => ?_))
   | exact ih0 _ _ _
   | exact ih1 _ _ _ _
   | exact runs_isRow.mono _ _
   | exact runs_modes.mono _ _ _
   | exact LeO.none _ | refine LeO.ite ?_ ?_ | refine LeO.bind ?_ (fun _ => ?_)
theorem runs_Modes.mono : ∀ a0 a1 k, LeO (runs_Modes.f k a0 a1) (runs_Modes.f (k + 1) a0 a1) := by
 intro a0 a1 k
 obtain ⟨ih0, ih1⟩ := runs_Modes.mono_l k
 unfold runs_Modes.f
 repeat' first
   | (with_reducible exact ih0 _ _ _)
   | (with_reducible exact ih1 _ _ _ _)
   | (with_reducible exact runs_isRow.mono _ _)
   | (with_reducible exact runs_modes.mono _ _ _)
   | (with_reducible first | exact LeO.refl _ | exact LeO.none _ | refine LeO.ite ?_ ?_ | refine LeO.bind ?_ (fun _ => ?_))
   | exact ih0 _ _ _
   | exact ih1 _ _ _ _
   | exact runs_isRow.mono _ _
   | exact runs_modes.mono _ _ _
   | exact LeO.none _ | refine LeO.ite ?_ ?_ | refine LeO.bind ?_ (fun _ => ?_)
set_option maxHeartbeats 8000000 in
set_option maxRecDepth 100000 in
theorem runs_Modes.calls (k : Nat) (A0 : Option Addr) (c0 : Nat) (l0 : List Int) (A1 : Option Addr) (c1 : Nat) (l1 : List Int) (r1 : List ByteArray) (r2 : Int) (w : World) (hT0 : TIs w) (hr0 : Kd.C (Kd.int .u8) w A0 l0.length l0) (hc0 : l0.length ≤ c0) (hr1 : Kd.C (Kd.int .u8) w A1 l1.length l1) (hc1 : l1.length ≤ c1) (h : runs_Modes.f k l0 l1 = some (r1, r2)) :
  Calls Tryd.prog 16 #[.slice A0 l0.length c0, .slice A1 l1.length c1] w fun e w' => ∃ v0_ : Value, e = .returned (.tuple #[v0_, .int .i64 r2]) ∧ Kd.R Kd.string 9 w' w.heap.size (fun _ => True) v0_ r1 ∧ Below w.heap.size w w' := by
 have HTI := Aside0.mk hT0
 clear hT0
 have hu69 := Tryd.underlying69
 have HR0 := Aside0.mk hr0
 have HC0 := Aside0.mk hc0
 clear hr0 hc0
 have HR1 := Aside0.mk hr1
 have HC1 := Aside0.mk hc1
 clear hr1 hc1
 have HB := Aside0.mk (Below.refl w.heap.size w)
 have H : ((runs_isRow.f k l0).bind fun t237 => (if t237 = true then ((runs_isRow.f k l1).bind fun t238 => (if t238 = true then (runs_Modes.j0 k l0 l1 ((l0.length : Int) != (l1.length : Int))) else (runs_Modes.j0 k l0 l1 true))) else (runs_Modes.j0 k l0 l1 true))) = some (r1, r2) := h
 clear h
 have HC3 := Aside0.mk H
 clear H
 go_enter Tryd.func16, Tryd.ntmps16
 go_upto_region 1 with (fail)
 go_cut [24] (fun v24 wc => ∃ (kq : Nat) (x24_2 : Bool), v24 = .bool x24_2 ∧ Aside0 (runs_Modes.j0 kq l0 l1 x24_2 = some (r1, r2)) ∧ Aside0 (kq ≤ k) ∧ Aside0 (Below w.heap.size w wc))
 case first =>
  have H := HC3.out
  clear HC3
  replace H := Option.bind_eq_some_iff.mp H
  obtain ⟨t237, A40, H⟩ := H
  replace H : (if t237 = true then ((runs_isRow.f k l1).bind fun t238 => (if t238 = true then (runs_Modes.j0 k l0 l1 ((l0.length : Int) != (l1.length : Int))) else (runs_Modes.j0 k l0 l1 true))) else (runs_Modes.j0 k l0 l1 true)) = some (r1, r2) := H
  have A4 := Aside0.mk A40
  clear A40
  by_cases c5 : t237 = true
  ·subst c5
   have H1 : ((runs_isRow.f k l1).bind fun t238 => (if t238 = true then (runs_Modes.j0 k l0 l1 ((l0.length : Int) != (l1.length : Int))) else (runs_Modes.j0 k l0 l1 true))) = some (r1, r2) := by rw [if_pos rfl] at H; exact H
   clear H
   have H := H1
   clear H1
   replace H := Option.bind_eq_some_iff.mp H
   obtain ⟨t238, A60, H⟩ := H
   replace H : (if t238 = true then (runs_Modes.j0 k l0 l1 ((l0.length : Int) != (l1.length : Int))) else (runs_Modes.j0 k l0 l1 true)) = some (r1, r2) := H
   have A6 := Aside0.mk A60
   clear A60
   by_cases c7 : t238 = true
   ·subst c7
    have H1 : (runs_Modes.j0 k l0 l1 ((l0.length : Int) != (l1.length : Int))) = some (r1, r2) := by rw [if_pos rfl] at H; exact H
    clear H
    have H := H1
    clear H1
    have H' := Aside0.mk H
    clear H
    go_wp2_with (first | ((with_reducible refine gf 40 rfl ?_); refine gL (some 11) rfl rfl Tryd.func40 rfl #[.slice A0 l0.length c0] rfl ?_; (with_reducible refine (runs_isRow.calls k _ _ l0 true _ ?side1 ?side2 A4.out).mono ?_); (case side1 => exact cU (Kd.C_below HR0.out HB.out)); (case side2 => exact HC0.out); rintro e w8 ⟨rfl, hb⟩; refine ⟨_, rfl, ?_⟩; have n_ := aE (bs hb); clear HB; have HB := n_; clear n_; (try clear hb)) | (go_at_call 40; (with_reducible refine (runs_isRow.calls k _ _ l1 true _ ?side1 ?side2 A6.out).mono ?_); (case side1 => exact cU (Kd.C_below HR1.out HB.out)); (case side2 => exact HC1.out); rintro e w9 ⟨rfl, hb⟩; have n_ := aE (bs hb); clear HB; have HB := n_; clear n_; (try clear hb)))
    go_meet
    case rel => exact ⟨_, (((l0.length : Int) != (l1.length : Int))), rq, H', ⟨by first | omega | exact Nat.le_refl _⟩, ⟨bl⟩⟩
   ·replace c7 := Bool.eq_false_iff.mpr c7
    subst c7
    have H1 : (runs_Modes.j0 k l0 l1 true) = some (r1, r2) := by rw [if_neg (show ¬ (false = true) by decide)] at H; exact H
    clear H
    have H := H1
    clear H1
    have H' := Aside0.mk H
    clear H
    go_wp2_with (first | ((with_reducible refine gf 40 rfl ?_); refine gL (some 11) rfl rfl Tryd.func40 rfl #[.slice A0 l0.length c0] rfl ?_; (with_reducible refine (runs_isRow.calls k _ _ l0 true _ ?side1 ?side2 A4.out).mono ?_); (case side1 => exact cU (Kd.C_below HR0.out HB.out)); (case side2 => exact HC0.out); rintro e w10 ⟨rfl, hb⟩; refine ⟨_, rfl, ?_⟩; have n_ := aE (bs hb); clear HB; have HB := n_; clear n_; (try clear hb)) | (go_at_call 40; (with_reducible refine (runs_isRow.calls k _ _ l1 false _ ?side1 ?side2 A6.out).mono ?_); (case side1 => exact cU (Kd.C_below HR1.out HB.out)); (case side2 => exact HC1.out); rintro e w11 ⟨rfl, hb⟩; have n_ := aE (bs hb); clear HB; have HB := n_; clear n_; (try clear hb)))
    go_meet
    case rel => exact ⟨_, (true), rq, H', ⟨by first | omega | exact Nat.le_refl _⟩, ⟨bl⟩⟩
  ·replace c5 := Bool.eq_false_iff.mpr c5
   subst c5
   have H1 : (runs_Modes.j0 k l0 l1 true) = some (r1, r2) := by rw [if_neg (show ¬ (false = true) by decide)] at H; exact H
   clear H
   have H := H1
   clear H1
   have H' := Aside0.mk H
   clear H
   go_wp2_with (first | ((with_reducible refine gf 40 rfl ?_); refine gL (some 11) rfl rfl Tryd.func40 rfl #[.slice A0 l0.length c0] rfl ?_; (with_reducible refine (runs_isRow.calls k _ _ l0 false _ ?side1 ?side2 A4.out).mono ?_); (case side1 => exact cU (Kd.C_below HR0.out HB.out)); (case side2 => exact HC0.out); rintro e w12 ⟨rfl, hb⟩; refine ⟨_, rfl, ?_⟩; have n_ := aE (bs hb); clear HB; have HB := n_; clear n_; (try clear hb)))
   go_meet
   case rel => exact ⟨_, (true), rq, H', ⟨by first | omega | exact Nat.le_refl _⟩, ⟨bl⟩⟩
 case rest =>
  clear HC3
  try clear c1
  obtain ⟨kq, x24_2, rfl, HA, HJ2, HB⟩ := hcut
  cases kq with
  | zero => exact absurd HA.out (by simp [runs_Modes.j0])
  | succ kj2 =>
   have H := HA.out
   clear HA
   simp only [runs_Modes.j0] at H
   by_cases c13 : x24_2 = true
   ·subst c13
    have H1 : (some (([] : List ByteArray), 2)) = some (r1, r2) := by rw [if_pos rfl] at H; exact H
    clear H
    have H := H1
    clear H1
    simp only [Option.some.injEq, Prod.mk.injEq] at H
    obtain ⟨rfl, rfl⟩ := H
    go_wp2
    go_ret2
    exact ⟨_, re, by first | exact Kd.R_nil _ _ _ _ _ | exact Kd.N_nil _ _ _ _ _ | exact Kd.V_nil _ _ _ _ _ | exact Kd.Q_nil _ _ _ _ _ | exact Kd.S_nil _ _ _ _ _, bl⟩
   ·replace c13 := Bool.eq_false_iff.mpr c13
    subst c13
    have H1 : ((runs_modes.f kj2 l0 l1).bind fun t239 => (runs_Modes.l0 kj2 ([] : List ByteArray) t239 (t239.length : Int) 0)) = some (r1, r2) := by rw [if_neg (show ¬ (false = true) by decide)] at H; exact H
    clear H
    have H := H1
    clear H1
    replace H := Option.bind_eq_some_iff.mp H
    obtain ⟨t239, A140, H⟩ := H
    replace H : (runs_Modes.l0 kj2 ([] : List ByteArray) t239 (t239.length : Int) 0) = some (r1, r2) := H
    have A14 := Aside0.mk A140
    clear A140
    have H' := Aside0.mk H
    clear H
    go_wp2_with (first | ((with_reducible refine gf 41 rfl ?_); refine gL (some 27) rfl rfl Tryd.func41 rfl #[.slice A0 l0.length c0, .slice A1 l1.length c1] rfl ?_; (with_reducible refine (runs_modes.calls kj2 _ _ l0 _ _ l1 t239 _ ?side1 ?side2 ?side3 ?side4 A14.out).mono ?_); (case side1 => exact cU (Kd.C_below HR0.out HB.out)); (case side2 => exact HC0.out); (case side3 => exact cU (Kd.C_below HR1.out HB.out)); (case side4 => exact HC1.out); rintro e w15 ⟨v240, rfl, ho0, hb⟩; refine ⟨_, rfl, ?_⟩; have n_ := aC (Kd.R_lower ho0 bz) (aE (bs hb)); clear HB; obtain ⟨HO241, HB⟩ := n_; (try clear hb); (try clear ho0); obtain ⟨Ao16, co16, eo16⟩ := Kd.R_slice HO241.out; subst eo16))
    go_loopg [6, 29] kj2 (fun kq v6 v29 w' => ∃ (x6_2 : List ByteArray) (x29_2 : Int), v29 = .int .i64 x29_2 ∧ Aside0 (runs_Modes.l0 kq x6_2 t239 (t239.length : Int) x29_2 = some (r1, r2)) ∧ Aside0 (kq ≤ kj2) ∧ Aside0 (Kd.R Kd.string 9 w' w.heap.size (fun _ => True) v6 x6_2) ∧ Aside0 (Kd.R k69 69 w' w.heap.size (fun _ => True) (.slice Ao16 t239.length co16) t239) ∧ Aside0 (Below w.heap.size w w'))
    case atStart => exact ⟨(([] : List ByteArray)), (0), rq, H', ⟨Nat.le_refl _⟩, ⟨by first | exact Kd.R_nil _ _ _ _ _ | exact Kd.N_nil _ _ _ _ _ | exact Kd.V_nil _ _ _ _ _ | exact Kd.Q_nil _ _ _ _ _ | exact Kd.S_nil _ _ _ _ _⟩, ⟨rU HO241.out⟩, ⟨bl⟩⟩
    case round =>
     clear H'
     try clear c1
     obtain ⟨x6_2, x29_2, rfl, HA, HK2, HO_6, HO_27, HB⟩ := hrel
     cases gk with
     | zero => exact absurd HA.out (by simp [runs_Modes.l0])
     | succ k2 =>
      have H := HA.out
      clear HA
      simp only [runs_Modes.l0] at H
      by_cases c17 : x29_2 < (t239.length : Int)
      ·rw [if_pos c17] at H
       have c17b0 := decide_eq_true c17
       clear c17
       by_cases c18 : 0 ≤ x29_2
       ·rw [if_pos c18] at H
        have c18b0 := decide_eq_true c18
        clear c18
        by_cases c19 : x29_2 < (t239.length : Int)
        ·rw [if_pos c19] at H
         have c19b0 := decide_eq_true c19
         clear c19
         by_cases c20 : ((rd_T69 t239 x29_2).f0).toList = ([117, 112] : List UInt8)
         ·rw [if_pos c20] at H
          have c20b0 := beq_iff_eq.mpr c20
          have c20b1 := bne_eq_false_iff_eq.mpr c20
          clear c20
          replace H := Option.bind_eq_some_iff.mp H
          obtain ⟨t244, A210, H⟩ := H
          replace H : (if ((rd_T69 t239 x29_2).f0).size + t244.size ≤ 9223372036854775807 then (if x6_2.length < 8796093022208 then (runs_Modes.l0 k2 (x6_2 ++ [((rd_T69 t239 x29_2).f0) ++ t244]) t239 (t239.length : Int) (wrap64 (x29_2 + 1))) else (none)) else (none)) = some (r1, r2) := H
          have A21 := Aside0.mk A210
          clear A210
          by_cases c22 : ((rd_T69 t239 x29_2).f0).size + t244.size ≤ 9223372036854775807
          ·rw [if_pos c22] at H
           have c22b0 := eq_true c22
           have c22b1 := decide_eq_true c22
           try have c22b2 : (9223372036854775807 < ((rd_T69 t239 x29_2).f0).size + t244.size) = False := eq_false (Nat.not_lt.2 c22)
           by_cases c23 : x6_2.length < 8796093022208
           ·rw [if_pos c23] at H
            have LMc23 := Aside0.mk c23
            clear c23
            obtain ⟨y245, hy_⟩ : ∃ y_ : List ByteArray, y_ = (x6_2 ++ [((rd_T69 t239 x29_2).f0) ++ t244]) := ⟨_, rfl⟩
            replace H : (runs_Modes.l0 k2 y245 t239 (t239.length : Int) (wrap64 (x29_2 + 1))) = some (r1, r2) := rh
            have Ny245 := aE hy_
            clear hy_
            have H' := Aside0.mk H
            clear H
            have p242 : 0 ≤ (x29_2 : Int) := dt
            have q242 : x29_2 < (t239.length : Int) := dt
            obtain ⟨ad242, e242, hx242_0, hx242_1, hx242_2, hx242_3, hx242_4⟩ := at_T69 (Kd.R_reads' HO_27.out).2.2 x29_2 p242 q242
            cases e242
            replace p242 := eq_true p242
            replace q242 := eq_true q242
            go_wp2_with (first | ((with_reducible refine gd 8 rfl ?_); (try (refine gate_guard (by rfl) ?_; dsimp only)); refine bx 8 #[.string (⟨#[]⟩ : ByteArray), .int .i64 0, .int .i64 0, .int .i64 0, .int .i64 0] 69 rfl rfl ?_; intro gb243 hg w24 hbox hb; have n_ := aC (Kd.R_below (rU HO_6.out) hb) (aC (Kd.R_below (Kd.R_elderB (rU HO_27.out) gb243 (Nat.le_of_eq hg.symm)) hb) (aC (bs hb) (aC hbox (aC (gz hg) (aE (gz hg)))))); clear HO_6 HO_27 HB; obtain ⟨HO_6, HO_27, HB, BK243, GW243, GE243⟩ := n_; clear hb hbox hg; obtain ⟨hcz25_0, hcz25_1, hcz25_2, hcz25_3, hcz25_4, hfz25_0, hfz25_1, hfz25_2, hfz25_3, hfz25_4⟩ := cz5f BK243.out) | ((with_reducible refine gf 42 rfl ?_); refine gL (some 40) rfl rfl Tryd.func42 rfl #[.int .i64 ((rd_T69 t239 x29_2).f1)] rfl ?_; (with_reducible refine (strconv_Itoa_42.calls ((rd_T69 t239 x29_2).f1) t244 _ (TIs.on HTI) A21.out).mono ?_); rintro e w26 ⟨rfl, hb⟩; refine ⟨_, rfl, ?_⟩; have n_ := aC (Kd.R_below (rU (Kd.R_mono (Kd.R_far (p := ⟨gb243, 4, none⟩) (Kd.R_far (p := ⟨gb243, 3, none⟩) (Kd.R_far (p := ⟨gb243, 2, none⟩) (Kd.R_far (p := ⟨gb243, 1, none⟩) (Kd.R_far (p := ⟨gb243, 0, none⟩) (Kd.R_types HO_6.out BK243.out (by decide)) (fun _ hk => hk.2) (.string ((rd_T69 t239 x29_2).f0))) (fun _ hk => hk.2) (.int .i64 ((rd_T69 t239 x29_2).f1))) (fun _ hk => hk.2) (.int .i64 ((rd_T69 t239 x29_2).f2.f0))) (fun _ hk => hk.2) (.int .i64 ((rd_T69 t239 x29_2).f2.f1))) (fun _ hk => hk.2) (.int .i64 ((rd_T69 t239 x29_2).f3))) (fun _ h_ => h_.1))) hb) (aC (Kd.R_below (rU (Kd.R_mono (Kd.R_far (p := ⟨gb243, 4, none⟩) (Kd.R_far (p := ⟨gb243, 3, none⟩) (Kd.R_far (p := ⟨gb243, 2, none⟩) (Kd.R_far (p := ⟨gb243, 1, none⟩) (Kd.R_far (p := ⟨gb243, 0, none⟩) (Kd.R_mono HO_27.out (fun k_ hk => (⟨hk, hk.2⟩ : _ ∧ k_ ≠ gb243))) (fun _ hk => hk.2) (.string ((rd_T69 t239 x29_2).f0))) (fun _ hk => hk.2) (.int .i64 ((rd_T69 t239 x29_2).f1))) (fun _ hk => hk.2) (.int .i64 ((rd_T69 t239 x29_2).f2.f0))) (fun _ hk => hk.2) (.int .i64 ((rd_T69 t239 x29_2).f2.f1))) (fun _ hk => hk.2) (.int .i64 ((rd_T69 t239 x29_2).f3))) (fun _ h_ => h_.1))) hb) (aC (blk_below (g := gb243) (o := .cells #[.string ((rd_T69 t239 x29_2).f0), .int .i64 ((rd_T69 t239 x29_2).f1), .int .i64 ((rd_T69 t239 x29_2).f2.f0), .int .i64 ((rd_T69 t239 x29_2).f2.f1), .int .i64 ((rd_T69 t239 x29_2).f3)] 69 (0, 0)) (by (with_reducible repeat (first | refine blk_drewN ?_ _ | refine blk_drew ?_ | refine blk_alloc ?_ _)); refine blk_put (cs := #[.string ((rd_T69 t239 x29_2).f0), .int .i64 ((rd_T69 t239 x29_2).f1), .int .i64 ((rd_T69 t239 x29_2).f2.f0), .int .i64 ((rd_T69 t239 x29_2).f2.f1), .int .i64 0]) ?_ 4 _ rfl; (with_reducible repeat (first | refine blk_drewN ?_ _ | refine blk_drew ?_ | refine blk_alloc ?_ _)); refine blk_put (cs := #[.string ((rd_T69 t239 x29_2).f0), .int .i64 ((rd_T69 t239 x29_2).f1), .int .i64 ((rd_T69 t239 x29_2).f2.f0), .int .i64 0, .int .i64 0]) ?_ 3 _ rfl; (with_reducible repeat (first | refine blk_drewN ?_ _ | refine blk_drew ?_ | refine blk_alloc ?_ _)); refine blk_put (cs := #[.string ((rd_T69 t239 x29_2).f0), .int .i64 ((rd_T69 t239 x29_2).f1), .int .i64 0, .int .i64 0, .int .i64 0]) ?_ 2 _ rfl; (with_reducible repeat (first | refine blk_drewN ?_ _ | refine blk_drew ?_ | refine blk_alloc ?_ _)); refine blk_put (cs := #[.string ((rd_T69 t239 x29_2).f0), .int .i64 0, .int .i64 0, .int .i64 0, .int .i64 0]) ?_ 1 _ rfl; (with_reducible repeat (first | refine blk_drewN ?_ _ | refine blk_drew ?_ | refine blk_alloc ?_ _)); refine blk_put (cs := #[.string (⟨#[]⟩ : ByteArray), .int .i64 0, .int .i64 0, .int .i64 0, .int .i64 0]) ?_ 0 _ rfl; (with_reducible repeat (first | refine blk_drewN ?_ _ | refine blk_drew ?_ | refine blk_alloc ?_ _)); exact BK243.out) hb) (aE (bs hb)))); clear HO_6 HO_27 BK243 HB; obtain ⟨HO_6, HO_27, BK243, HB⟩ := n_; (try clear hb)) | ((with_reducible refine gate_builtin (b := .append) (xs := #[.tmp 42, .tmp 44]) rfl ?_); (try (refine gate_guard (by rfl) ?_; dsimp only)); at_builtin; refine Kd.R_append Kd.string (w0 := w) w.heap.size rfl (.tmp 42) (.tmp 44) 30 9 (.string ⟨#[]⟩) 16 rfl Tryd.underlying30 info9 rfl (by decide) (by omega) u6 x6_2 (((rd_T69 t239 x29_2).f0) ++ t244) [.string (((rd_T69 t239 x29_2).f0) ++ t244)] (fun _ => True) (fun _ => False) rfl rfl ?aP (fun _ hk => hk.elim) ?aF ?aO ?aB ?aS ?aL ?_; (case aP => exact rfl); (case aB => exact bl); (case aF => exact (fun _ _ => trivial)); (case aO => exact (rU HO_6.out)); (case aS => exact bz); (case aL => have := LMc23.out; omega); intro v246 w27 ho hb hg hat; rw [← Ny245.out] at ho; have n_ := aC (Kd.R_over' (rU HO_27.out) (Kd.R_typed (rU HO_6.out)) (by decide) hg) (aC (blk_grown (g := gb243) (o := .cells #[.string ((rd_T69 t239 x29_2).f0), .int .i64 ((rd_T69 t239 x29_2).f1), .int .i64 ((rd_T69 t239 x29_2).f2.f0), .int .i64 ((rd_T69 t239 x29_2).f2.f1), .int .i64 ((rd_T69 t239 x29_2).f3)] 69 (0, 0)) (bU BK243.out) hg (Kd.R_ne HO_6.out BK243.out (by decide))) (aC hb (aE ho))); clear HO_27 BK243 HB HO_6; obtain ⟨HO_27, BK243, HB, HO247⟩ := n_; clear ho hb hg hat))
            go_roundg k2
            case measure => have := HJ2.out; have := HK2.out; omega
            case rel => exact ⟨(y245), (wrap64 (x29_2 + 1)), rq, H', ⟨by have := HJ2.out; have := HK2.out; omega⟩, ⟨rU HO247.out⟩, ⟨rU (Kd.R_mono HO_27.out (fun _ hk => trivial))⟩, ⟨bl⟩⟩
           ·rw [if_neg c23] at H
            exact absurd H (by simp)
          ·rw [if_neg c22] at H
           exact absurd H (by simp)
         ·rw [if_neg c20] at H
          have c20b0 := beq_eq_false_iff_ne.mpr c20
          have c20b1 := bne_iff_ne.mpr c20
          by_cases c28 : x6_2.length < 8796093022208
          ·rw [if_pos c28] at H
           have LMc28 := Aside0.mk c28
           clear c28
           obtain ⟨y248, hy_⟩ : ∃ y_ : List ByteArray, y_ = (x6_2 ++ [(rd_T69 t239 x29_2).f0]) := ⟨_, rfl⟩
           replace H : (runs_Modes.l0 k2 y248 t239 (t239.length : Int) (wrap64 (x29_2 + 1))) = some (r1, r2) := rh
           have Ny248 := aE hy_
           clear hy_
           have H' := Aside0.mk H
           clear H
           have p242 : 0 ≤ (x29_2 : Int) := dt
           have q242 : x29_2 < (t239.length : Int) := dt
           obtain ⟨ad242, e242, hx242_0, hx242_1, hx242_2, hx242_3, hx242_4⟩ := at_T69 (Kd.R_reads' HO_27.out).2.2 x29_2 p242 q242
           cases e242
           replace p242 := eq_true p242
           replace q242 := eq_true q242
           go_wp2_with (first | ((with_reducible refine gd 8 rfl ?_); (try (refine gate_guard (by rfl) ?_; dsimp only)); refine bx 8 #[.string (⟨#[]⟩ : ByteArray), .int .i64 0, .int .i64 0, .int .i64 0, .int .i64 0] 69 rfl rfl ?_; intro gb243 hg w29 hbox hb; have n_ := aC (Kd.R_below (rU HO_6.out) hb) (aC (Kd.R_below (Kd.R_elderB (rU HO_27.out) gb243 (Nat.le_of_eq hg.symm)) hb) (aC (bs hb) (aC hbox (aC (gz hg) (aE (gz hg)))))); clear HO_6 HO_27 HB; obtain ⟨HO_6, HO_27, HB, BK243, GW243, GE243⟩ := n_; clear hb hbox hg; obtain ⟨hcz30_0, hcz30_1, hcz30_2, hcz30_3, hcz30_4, hfz30_0, hfz30_1, hfz30_2, hfz30_3, hfz30_4⟩ := cz5f BK243.out) | ((with_reducible refine gate_builtin (b := .append) (xs := #[.tmp 42, .tmp 44]) rfl ?_); (try (refine gate_guard (by rfl) ?_; dsimp only)); at_builtin; refine Kd.R_append Kd.string (w0 := w) w.heap.size rfl (.tmp 42) (.tmp 44) 30 9 (.string ⟨#[]⟩) 16 rfl Tryd.underlying30 info9 rfl (by decide) (by omega) u6 x6_2 ((rd_T69 t239 x29_2).f0) [.string ((rd_T69 t239 x29_2).f0)] (fun _ => True) (fun _ => False) rfl (by first | (go_simp; done) | (go_simp; rfl)) ?aP (fun _ hk => hk.elim) ?aF ?aO ?aB ?aS ?aL ?_; (case aP => exact rfl); (case aB => exact bl); (case aF => exact (fun _ _ => trivial)); (case aO => exact (rU (Kd.R_mono (Kd.R_far (p := ⟨gb243, 4, none⟩) (Kd.R_far (p := ⟨gb243, 3, none⟩) (Kd.R_far (p := ⟨gb243, 2, none⟩) (Kd.R_far (p := ⟨gb243, 1, none⟩) (Kd.R_far (p := ⟨gb243, 0, none⟩) (Kd.R_types HO_6.out BK243.out (by decide)) (fun _ hk => hk.2) (.string ((rd_T69 t239 x29_2).f0))) (fun _ hk => hk.2) (.int .i64 ((rd_T69 t239 x29_2).f1))) (fun _ hk => hk.2) (.int .i64 ((rd_T69 t239 x29_2).f2.f0))) (fun _ hk => hk.2) (.int .i64 ((rd_T69 t239 x29_2).f2.f1))) (fun _ hk => hk.2) (.int .i64 ((rd_T69 t239 x29_2).f3))) (fun _ hk => trivial)))); (case aS => exact bz); (case aL => have := LMc28.out; omega); intro v249 w31 ho hb hg hat; rw [← Ny248.out] at ho; have n_ := aC (Kd.R_over' (rU (Kd.R_mono (Kd.R_far (p := ⟨gb243, 4, none⟩) (Kd.R_far (p := ⟨gb243, 3, none⟩) (Kd.R_far (p := ⟨gb243, 2, none⟩) (Kd.R_far (p := ⟨gb243, 1, none⟩) (Kd.R_far (p := ⟨gb243, 0, none⟩) (Kd.R_mono HO_27.out (fun k_ hk => (⟨hk, hk.2⟩ : _ ∧ k_ ≠ gb243))) (fun _ hk => hk.2) (.string ((rd_T69 t239 x29_2).f0))) (fun _ hk => hk.2) (.int .i64 ((rd_T69 t239 x29_2).f1))) (fun _ hk => hk.2) (.int .i64 ((rd_T69 t239 x29_2).f2.f0))) (fun _ hk => hk.2) (.int .i64 ((rd_T69 t239 x29_2).f2.f1))) (fun _ hk => hk.2) (.int .i64 ((rd_T69 t239 x29_2).f3))) (fun _ h_ => h_.1))) (Kd.R_typed (rU (Kd.R_mono (Kd.R_far (p := ⟨gb243, 4, none⟩) (Kd.R_far (p := ⟨gb243, 3, none⟩) (Kd.R_far (p := ⟨gb243, 2, none⟩) (Kd.R_far (p := ⟨gb243, 1, none⟩) (Kd.R_far (p := ⟨gb243, 0, none⟩) (Kd.R_types HO_6.out BK243.out (by decide)) (fun _ hk => hk.2) (.string ((rd_T69 t239 x29_2).f0))) (fun _ hk => hk.2) (.int .i64 ((rd_T69 t239 x29_2).f1))) (fun _ hk => hk.2) (.int .i64 ((rd_T69 t239 x29_2).f2.f0))) (fun _ hk => hk.2) (.int .i64 ((rd_T69 t239 x29_2).f2.f1))) (fun _ hk => hk.2) (.int .i64 ((rd_T69 t239 x29_2).f3))) (fun _ h_ => h_.1)))) (by decide) hg) (aC (blk_grown (g := gb243) (o := .cells #[.string ((rd_T69 t239 x29_2).f0), .int .i64 ((rd_T69 t239 x29_2).f1), .int .i64 ((rd_T69 t239 x29_2).f2.f0), .int .i64 ((rd_T69 t239 x29_2).f2.f1), .int .i64 ((rd_T69 t239 x29_2).f3)] 69 (0, 0)) (by (with_reducible repeat (first | refine blk_drewN ?_ _ | refine blk_drew ?_ | refine blk_alloc ?_ _)); refine blk_put (cs := #[.string ((rd_T69 t239 x29_2).f0), .int .i64 ((rd_T69 t239 x29_2).f1), .int .i64 ((rd_T69 t239 x29_2).f2.f0), .int .i64 ((rd_T69 t239 x29_2).f2.f1), .int .i64 0]) ?_ 4 _ rfl; (with_reducible repeat (first | refine blk_drewN ?_ _ | refine blk_drew ?_ | refine blk_alloc ?_ _)); refine blk_put (cs := #[.string ((rd_T69 t239 x29_2).f0), .int .i64 ((rd_T69 t239 x29_2).f1), .int .i64 ((rd_T69 t239 x29_2).f2.f0), .int .i64 0, .int .i64 0]) ?_ 3 _ rfl; (with_reducible repeat (first | refine blk_drewN ?_ _ | refine blk_drew ?_ | refine blk_alloc ?_ _)); refine blk_put (cs := #[.string ((rd_T69 t239 x29_2).f0), .int .i64 ((rd_T69 t239 x29_2).f1), .int .i64 0, .int .i64 0, .int .i64 0]) ?_ 2 _ rfl; (with_reducible repeat (first | refine blk_drewN ?_ _ | refine blk_drew ?_ | refine blk_alloc ?_ _)); refine blk_put (cs := #[.string ((rd_T69 t239 x29_2).f0), .int .i64 0, .int .i64 0, .int .i64 0, .int .i64 0]) ?_ 1 _ rfl; (with_reducible repeat (first | refine blk_drewN ?_ _ | refine blk_drew ?_ | refine blk_alloc ?_ _)); refine blk_put (cs := #[.string (⟨#[]⟩ : ByteArray), .int .i64 0, .int .i64 0, .int .i64 0, .int .i64 0]) ?_ 0 _ rfl; (with_reducible repeat (first | refine blk_drewN ?_ _ | refine blk_drew ?_ | refine blk_alloc ?_ _)); exact BK243.out) hg (Kd.R_ne HO_6.out BK243.out (by decide))) (aC hb (aE ho))); clear HO_27 BK243 HB HO_6; obtain ⟨HO_27, BK243, HB, HO250⟩ := n_; clear ho hb hg hat))
           go_roundg k2
           case measure => have := HJ2.out; have := HK2.out; omega
           case rel => exact ⟨(y248), (wrap64 (x29_2 + 1)), rq, H', ⟨by have := HJ2.out; have := HK2.out; omega⟩, ⟨rU HO250.out⟩, ⟨rU (Kd.R_mono HO_27.out (fun _ hk => trivial))⟩, ⟨bl⟩⟩
          ·rw [if_neg c28] at H
           exact absurd H (by simp)
        ·rw [if_neg c19] at H
         exact absurd H (by simp)
       ·rw [if_neg c18] at H
        exact absurd H (by simp)
      ·rw [if_neg c17] at H
       have c17b0 := decide_eq_false c17
       clear c17
       simp only [Option.some.injEq, Prod.mk.injEq] at H
       obtain ⟨rfl, rfl⟩ := H
       go_wp2
       go_ret2
       exact ⟨_, re, rU HO_6.out, bl⟩

end Go.Proofs.YtknclbodinfbeaaDoor.PRunsAgain
