-- Written by a program of this session (wip/tools/myprint.py) over the kit's print. Not trusted: Lean checks it.
import Derived.Test.YtknclbodinfbeaaDoorPRunsCodesx0
namespace Go.Proofs.YtknclbodinfbeaaDoor.PRunsCodes
open Go.RowKit Go.Proofs.YtknclbodinfbeaaDoorW.PrintWords Go.Proofs.YtknclbodinfbeaaDoorW.PrintLast Go.Proofs.YtknclbodinfbeaaDoorW.PrintMore
attribute [local go_sem] max2_int min2_int max_two min_two max_three min_three max_four min_four   -- for this text's walks alone
set_option linter.unusedVariables false
set_option linter.unusedSimpArgs false

/-! ### incunableref04_Place: function 60 -/
def incunableref04_Place.j0 : Nat → Bool → Int → Int → Int → Int → Bool → Int → Option (Int × Bool)
 | 0, _, _, _, _, _, _, _ => none
 | k + 1, x14, x384000, x384001, x384002, x384003, x385000, x385001 => if x14 = true then (if x384003 = 2 then (if x385000 = true then (some (0, (x385001 == 0))) else (some (0, false))) else (some (0, false))) else (if x384003 = 1 then (if x385001 < (-4194304) then (some (wrap64 (x384002 - x385001), false)) else (if x385001 > 4194304 then (some (wrap64 (x384002 - x385001), false)) else (if (wrap64 (x384002 - x385001)) ≥ 0 then (if 0 ≤ x384001 then (some (wrap64 (x384002 - x385001), decide ((wrap64 (x384002 - x385001)) < (shl .i64 1 x384001)))) else (none)) else (some (wrap64 (x384002 - x385001), false))))) else (if x385001 < (-4194304) then (some (wrap64 (x385001 - x384002), false)) else (if x385001 > 4194304 then (some (wrap64 (x385001 - x384002), false)) else (if (wrap64 (x385001 - x384002)) ≥ 0 then (if 0 ≤ x384001 then (some (wrap64 (x385001 - x384002), decide ((wrap64 (x385001 - x384002)) < (shl .i64 1 x384001)))) else (none)) else (some (wrap64 (x385001 - x384002), false))))))
def incunableref04_Place.f (k : Nat) (a0_0 : Int) (a0_1 : Int) (a0_2 : Int) (a0_3 : Int) (a1_0 : Bool) (a1_1 : Int) : Option (Int × Bool) := if a0_3 = 2 then (incunableref04_Place.j0 k true a0_0 a0_1 a0_2 a0_3 a1_0 a1_1) else (incunableref04_Place.j0 k a1_0 a0_0 a0_1 a0_2 a0_3 a1_0 a1_1)
theorem incunableref04_Place.mono_l : ∀ k, (∀ y0 y1 y2 y3 y4 y5 y6, LeO (incunableref04_Place.j0 k y0 y1 y2 y3 y4 y5 y6) (incunableref04_Place.j0 (k + 1) y0 y1 y2 y3 y4 y5 y6))
 | 0 => fun _ _ _ _ _ _ _ r h => by simp [incunableref04_Place.j0] at h
 | k + 1 => by
  have ih0 := incunableref04_Place.mono_l k
  ·intro y0 y1 y2 y3 y4 y5 y6
   unfold incunableref04_Place.j0
   repeat' first
   | (with_reducible exact ih0 _ _ _ _ _ _ _)
   | (with_reducible first | exact LeO.refl _ | exact LeO.none _ | refine LeO.ite ?_ ?_ | refine LeO.bind ?_ (fun _ => ?_))
   | exact ih0 _ _ _ _ _ _ _
   | exact LeO.none _ | refine LeO.ite ?_ ?_ | refine LeO.bind ?_ (fun _ => ?_)
theorem incunableref04_Place.mono : ∀ a0 a1 a2 a3 a4 a5 k, LeO (incunableref04_Place.f k a0 a1 a2 a3 a4 a5) (incunableref04_Place.f (k + 1) a0 a1 a2 a3 a4 a5) := by
 intro a0 a1 a2 a3 a4 a5 k
 have ih0 := incunableref04_Place.mono_l k
 unfold incunableref04_Place.f
 repeat' first
   | (with_reducible exact ih0 _ _ _ _ _ _ _)
   | (with_reducible first | exact LeO.refl _ | exact LeO.none _ | refine LeO.ite ?_ ?_ | refine LeO.bind ?_ (fun _ => ?_))
   | exact ih0 _ _ _ _ _ _ _
   | exact LeO.none _ | refine LeO.ite ?_ ?_ | refine LeO.bind ?_ (fun _ => ?_)
set_option maxHeartbeats 8000000 in
set_option maxRecDepth 100000 in
theorem incunableref04_Place.calls (k : Nat) (a0_0 : Int) (a0_1 : Int) (a0_2 : Int) (a0_3 : Int) (a1_0 : Bool) (a1_1 : Int) (r1 : Int) (r2 : Bool) (w : World) (h : incunableref04_Place.f k a0_0 a0_1 a0_2 a0_3 a1_0 a1_1 = some (r1, r2)) :
  Calls Tryd.prog 60 #[.agg #[.int .i64 a0_0, .int .i64 a0_1, .int .i64 a0_2, .int .i64 a0_3], .agg #[.bool a1_0, .int .i64 a1_1]] w fun e w' => e = .returned (.tuple #[.int .i64 r1, .bool r2]) ∧ Below w.heap.size w w' := by
 have hu87 := Tryd.underlying87
 have hu64 := Tryd.underlying64
 have HB := Aside0.mk (Below.refl w.heap.size w)
 have H : (if a0_3 = 2 then (incunableref04_Place.j0 k true a0_0 a0_1 a0_2 a0_3 a1_0 a1_1) else (incunableref04_Place.j0 k a1_0 a0_0 a0_1 a0_2 a0_3 a1_0 a1_1)) = some (r1, r2) := h
 clear h
 have HC3 := Aside0.mk H
 clear H
 go_enter Tryd.func60, Tryd.ntmps60
 go_upto_region 1 with (first | ((with_reducible refine gd 2 rfl ?_); refine bx 2 #[.int .i64 a0_0, .int .i64 a0_1, .int .i64 a0_2, .int .i64 a0_3] 87 rfl rfl ?_; intro gb383 hg w4 hbox hb; have n_ := aC (bs hb) (aC hbox (aC (gz hg) (aE (gz hg)))); clear HB; obtain ⟨HB, BK383, GW383, GE383⟩ := n_; clear hb hbox hg) | ((with_reducible refine gd 3 rfl ?_); refine bx 3 #[.bool a1_0, .int .i64 a1_1] 64 rfl rfl ?_; intro gb384 hg w5 hbox hb; have n_ := aC (blk_below (bU BK383.out) hb) (aC (bs hb) (aC hbox (aC (gz hg) (aC (gz hg) (aC (gn hg (bU BK383.out)) (aE (gm hg (bU BK383.out)))))))); clear BK383 HB; obtain ⟨BK383, HB, BK384, GW384, GE384, NB383_384, NB384_383⟩ := n_; clear hb hbox hg))
 (try simp only [Act.put, List.setIfInBounds_toArray, List.set_cons_zero, List.set_cons_succ])
 go_cut [14] (fun v14 wc => ∃ (kq : Nat) (x14_2 : Bool), v14 = .bool x14_2 ∧ Aside0 (incunableref04_Place.j0 kq x14_2 a0_0 a0_1 a0_2 a0_3 a1_0 a1_1 = some (r1, r2)) ∧ Aside0 (kq ≤ k) ∧ Aside0 (wc.heap[gb383]? = some (.cells #[.int .i64 a0_0, .int .i64 a0_1, .int .i64 a0_2, .int .i64 a0_3] 87 (0, 0))) ∧ Aside0 (wc.heap[gb384]? = some (.cells #[.bool a1_0, .int .i64 a1_1] 64 (0, 0))) ∧ Aside0 (Below w.heap.size w wc))
 case first =>
  have H := HC3.out
  clear HC3
  by_cases c6 : a0_3 = 2
  ·rw [if_pos c6] at H
   have c6b0 := beq_iff_eq.mpr c6
   have c6b1 := bne_eq_false_iff_eq.mpr c6
   clear c6
   (first | rw [c6b0] | (simp only [i64_w, i32_w]; rw [c6b0]) | skip)
   have H' := Aside0.mk H
   clear H
   have hnb7 := NB383_384.out
   have hnc7 := NB384_383.out
   obtain ⟨hcz8_0, hcz8_1, hcz8_2, hcz8_3, hfz8_0, hfz8_1, hfz8_2, hfz8_3⟩ := cz4f BK383.out
   go_wp2
   go_meet
   case rel => exact ⟨_, (true), rq, H', ⟨by first | omega | exact Nat.le_refl _⟩, ⟨bU BK383.out⟩, ⟨bU BK384.out⟩, ⟨bl⟩⟩
  ·rw [if_neg c6] at H
   have c6b0 := beq_eq_false_iff_ne.mpr c6
   have c6b1 := bne_iff_ne.mpr c6
   (first | rw [c6b0] | (simp only [i64_w, i32_w]; rw [c6b0]) | skip)
   have H' := Aside0.mk H
   clear H
   have hnb9 := NB383_384.out
   have hnc9 := NB384_383.out
   obtain ⟨hcz10_0, hcz10_1, hcz10_2, hcz10_3, hfz10_0, hfz10_1, hfz10_2, hfz10_3⟩ := cz4f BK383.out
   obtain ⟨hcz11_0, hcz11_1, hfz11_0, hfz11_1⟩ := cz2f BK384.out
   go_wp2
   go_meet
   case rel => exact ⟨_, (a1_0), rq, H', ⟨by first | omega | exact Nat.le_refl _⟩, ⟨bU BK383.out⟩, ⟨bU BK384.out⟩, ⟨bl⟩⟩
 case rest =>
  clear HC3
  obtain ⟨kq, x14_2, rfl, HA, HJ2, BK383, BK384, HB⟩ := hcut
  cases kq with
  | zero => exact absurd HA.out (by simp [incunableref04_Place.j0])
  | succ kj2 =>
   have H := HA.out
   clear HA
   simp only [incunableref04_Place.j0] at H
   by_cases c12 : x14_2 = true
   ·subst c12
    have H1 : (if a0_3 = 2 then (if a1_0 = true then (some (0, (a1_1 == 0))) else (some (0, false))) else (some (0, false))) = some (r1, r2) := by rw [if_pos rfl] at H; exact H
    clear H
    have H := H1
    clear H1
    by_cases c13 : a0_3 = 2
    ·rw [if_pos c13] at H
     have c13b0 := beq_iff_eq.mpr c13
     have c13b1 := bne_eq_false_iff_eq.mpr c13
     clear c13
     by_cases c14 : a1_0 = true
     ·subst c14
      have H1 : (some (0, (a1_1 == 0))) = some (r1, r2) := by rw [if_pos rfl] at H; exact H
      clear H
      have H := H1
      clear H1
      simp only [Option.some.injEq, Prod.mk.injEq] at H
      obtain ⟨rfl, rfl⟩ := H
      have hnb15 := NB383_384.out
      have hnc15 := NB384_383.out
      obtain ⟨hcz16_0, hcz16_1, hcz16_2, hcz16_3, hfz16_0, hfz16_1, hfz16_2, hfz16_3⟩ := cz4f BK383.out
      obtain ⟨hcz17_0, hcz17_1, hfz17_0, hfz17_1⟩ := cz2f BK384.out
      go_wp2
      repeat (go_quiet (fail); try go_wp2)
      go_ret2
      exact ⟨re, bl⟩
     ·replace c14 := Bool.eq_false_iff.mpr c14
      subst c14
      have H1 : (some (0, false)) = some (r1, r2) := by rw [if_neg (show ¬ (false = true) by decide)] at H; exact H
      clear H
      have H := H1
      clear H1
      simp only [Option.some.injEq, Prod.mk.injEq] at H
      obtain ⟨rfl, rfl⟩ := H
      have hnb18 := NB383_384.out
      have hnc18 := NB384_383.out
      obtain ⟨hcz19_0, hcz19_1, hcz19_2, hcz19_3, hfz19_0, hfz19_1, hfz19_2, hfz19_3⟩ := cz4f BK383.out
      obtain ⟨hcz20_0, hcz20_1, hfz20_0, hfz20_1⟩ := cz2f BK384.out
      go_wp2
      repeat (go_quiet (fail); try go_wp2)
      go_ret2
      exact ⟨re, bl⟩
    ·rw [if_neg c13] at H
     have c13b0 := beq_eq_false_iff_ne.mpr c13
     have c13b1 := bne_iff_ne.mpr c13
     simp only [Option.some.injEq, Prod.mk.injEq] at H
     obtain ⟨rfl, rfl⟩ := H
     have hnb21 := NB383_384.out
     have hnc21 := NB384_383.out
     obtain ⟨hcz22_0, hcz22_1, hcz22_2, hcz22_3, hfz22_0, hfz22_1, hfz22_2, hfz22_3⟩ := cz4f BK383.out
     go_wp2
     repeat (go_quiet (fail); try go_wp2)
     go_ret2
     exact ⟨re, bl⟩
   ·replace c12 := Bool.eq_false_iff.mpr c12
    subst c12
    have H1 : (if a0_3 = 1 then (if a1_1 < (-4194304) then (some (wrap64 (a0_2 - a1_1), false)) else (if a1_1 > 4194304 then (some (wrap64 (a0_2 - a1_1), false)) else (if (wrap64 (a0_2 - a1_1)) ≥ 0 then (if 0 ≤ a0_1 then (some (wrap64 (a0_2 - a1_1), decide ((wrap64 (a0_2 - a1_1)) < (shl .i64 1 a0_1)))) else (none)) else (some (wrap64 (a0_2 - a1_1), false))))) else (if a1_1 < (-4194304) then (some (wrap64 (a1_1 - a0_2), false)) else (if a1_1 > 4194304 then (some (wrap64 (a1_1 - a0_2), false)) else (if (wrap64 (a1_1 - a0_2)) ≥ 0 then (if 0 ≤ a0_1 then (some (wrap64 (a1_1 - a0_2), decide ((wrap64 (a1_1 - a0_2)) < (shl .i64 1 a0_1)))) else (none)) else (some (wrap64 (a1_1 - a0_2), false)))))) = some (r1, r2) := by rw [if_neg (show ¬ (false = true) by decide)] at H; exact H
    clear H
    have H := H1
    clear H1
    by_cases c23 : a0_3 = 1
    ·rw [if_pos c23] at H
     have c23b0 := beq_iff_eq.mpr c23
     have c23b1 := bne_eq_false_iff_eq.mpr c23
     clear c23
     by_cases c24 : a1_1 < (-4194304)
     ·rw [if_pos c24] at H
      have c24b0 := decide_eq_true c24
      clear c24
      simp only [Option.some.injEq, Prod.mk.injEq] at H
      obtain ⟨rfl, rfl⟩ := H
      have hnb25 := NB384_383.out
      have hnc25 := NB383_384.out
      obtain ⟨hcz26_0, hcz26_1, hfz26_0, hfz26_1⟩ := cz2f BK384.out
      obtain ⟨hcz27_0, hcz27_1, hcz27_2, hcz27_3, hfz27_0, hfz27_1, hfz27_2, hfz27_3⟩ := cz4f BK383.out
      go_wp2
      repeat (go_quiet (fail); try go_wp2)
      go_ret2
      exact ⟨re, bl⟩
     ·rw [if_neg c24] at H
      have c24b0 := decide_eq_false c24
      clear c24
      by_cases c28 : a1_1 > 4194304
      ·rw [if_pos c28] at H
       have c28b0 := decide_eq_true c28
       clear c28
       simp only [Option.some.injEq, Prod.mk.injEq] at H
       obtain ⟨rfl, rfl⟩ := H
       have hnb29 := NB384_383.out
       have hnc29 := NB383_384.out
       obtain ⟨hcz30_0, hcz30_1, hfz30_0, hfz30_1⟩ := cz2f BK384.out
       obtain ⟨hcz31_0, hcz31_1, hcz31_2, hcz31_3, hfz31_0, hfz31_1, hfz31_2, hfz31_3⟩ := cz4f BK383.out
       go_wp2
       repeat (go_quiet (fail); try go_wp2)
       go_ret2
       exact ⟨re, bl⟩
      ·rw [if_neg c28] at H
       have c28b0 := decide_eq_false c28
       clear c28
       by_cases c32 : (wrap64 (a0_2 - a1_1)) ≥ 0
       ·rw [if_pos c32] at H
        have c32b0 := decide_eq_true c32
        clear c32
        by_cases c33 : 0 ≤ a0_1
        ·rw [if_pos c33] at H
         have c33b0 := eq_true c33
         have c33b1 := decide_eq_true c33
         clear c33
         obtain ⟨ji34, hji34⟩ : ∃ j_ : Int, (shl .i64 1 a0_1) = j_ := ⟨_, rfl⟩
         replace H : (some (wrap64 (a0_2 - a1_1), decide ((wrap64 (a0_2 - a1_1)) < (ji34)))) = some (r1, r2) := by first | (rw [hji34] at H; exact H) | (simp only [hji34] at H ⊢; exact H)
         have hji34_ : (IntKind.i64.wrap (1 * 2 ^ min a0_1.toNat 64)) = ji34 := hji34
         have hji34z : a0_1 ≤ 64 → (IntKind.i64.wrap (1 * 2 ^ a0_1.toNat)) = ji34 := shl_small hji34
         have hji34u : (IntKind.i64.wrap (2 ^ min a0_1.toNat 64)) = ji34 := by have h_ := hji34_; rw [Int.one_mul] at h_; exact h_
         have hji34v : a0_1 ≤ 64 → (IntKind.i64.wrap (2 ^ a0_1.toNat)) = ji34 := fun hle_ => by have h_ := hji34z hle_; rw [Int.one_mul] at h_; exact h_
         have hji34y : (wrap64 (1 * 2 ^ min a0_1.toNat 64)) = ji34 := (i64_w _).symm.trans hji34_
         have hji34x : a0_1 ≤ 64 → (wrap64 (1 * 2 ^ a0_1.toNat)) = ji34 := fun h_ => (i64_w _).symm.trans (hji34z h_)
         simp only [Option.some.injEq, Prod.mk.injEq] at H
         obtain ⟨rfl, rfl⟩ := H
         have hnb35 := NB384_383.out
         have hnc35 := NB383_384.out
         obtain ⟨hcz36_0, hcz36_1, hfz36_0, hfz36_1⟩ := cz2f BK384.out
         obtain ⟨hcz37_0, hcz37_1, hcz37_2, hcz37_3, hfz37_0, hfz37_1, hfz37_2, hfz37_3⟩ := cz4f BK383.out
         go_wp2
         repeat (go_quiet (fail); try go_wp2)
         go_ret2
         exact ⟨by first | rfl | (simp [errW_none, errW_some] <;> rfl) | (simp only [← hji34]; first | rfl | (simp [errW_none, errW_some] <;> rfl)) | (simp [*, errW_none, errW_some] <;> rfl), bl⟩
        ·rw [if_neg c33] at H
         exact absurd H (by simp)
       ·rw [if_neg c32] at H
        have c32b0 := decide_eq_false c32
        clear c32
        simp only [Option.some.injEq, Prod.mk.injEq] at H
        obtain ⟨rfl, rfl⟩ := H
        have hnb38 := NB384_383.out
        have hnc38 := NB383_384.out
        obtain ⟨hcz39_0, hcz39_1, hfz39_0, hfz39_1⟩ := cz2f BK384.out
        obtain ⟨hcz40_0, hcz40_1, hcz40_2, hcz40_3, hfz40_0, hfz40_1, hfz40_2, hfz40_3⟩ := cz4f BK383.out
        go_wp2
        repeat (go_quiet (fail); try go_wp2)
        go_ret2
        exact ⟨re, bl⟩
    ·rw [if_neg c23] at H
     have c23b0 := beq_eq_false_iff_ne.mpr c23
     have c23b1 := bne_iff_ne.mpr c23
     by_cases c41 : a1_1 < (-4194304)
     ·rw [if_pos c41] at H
      have c41b0 := decide_eq_true c41
      clear c41
      simp only [Option.some.injEq, Prod.mk.injEq] at H
      obtain ⟨rfl, rfl⟩ := H
      have hnb42 := NB384_383.out
      have hnc42 := NB383_384.out
      obtain ⟨hcz43_0, hcz43_1, hfz43_0, hfz43_1⟩ := cz2f BK384.out
      obtain ⟨hcz44_0, hcz44_1, hcz44_2, hcz44_3, hfz44_0, hfz44_1, hfz44_2, hfz44_3⟩ := cz4f BK383.out
      go_wp2
      repeat (go_quiet (fail); try go_wp2)
      go_ret2
      exact ⟨re, bl⟩
     ·rw [if_neg c41] at H
      have c41b0 := decide_eq_false c41
      clear c41
      by_cases c45 : a1_1 > 4194304
      ·rw [if_pos c45] at H
       have c45b0 := decide_eq_true c45
       clear c45
       simp only [Option.some.injEq, Prod.mk.injEq] at H
       obtain ⟨rfl, rfl⟩ := H
       have hnb46 := NB384_383.out
       have hnc46 := NB383_384.out
       obtain ⟨hcz47_0, hcz47_1, hfz47_0, hfz47_1⟩ := cz2f BK384.out
       obtain ⟨hcz48_0, hcz48_1, hcz48_2, hcz48_3, hfz48_0, hfz48_1, hfz48_2, hfz48_3⟩ := cz4f BK383.out
       go_wp2
       repeat (go_quiet (fail); try go_wp2)
       go_ret2
       exact ⟨re, bl⟩
      ·rw [if_neg c45] at H
       have c45b0 := decide_eq_false c45
       clear c45
       by_cases c49 : (wrap64 (a1_1 - a0_2)) ≥ 0
       ·rw [if_pos c49] at H
        have c49b0 := decide_eq_true c49
        clear c49
        by_cases c50 : 0 ≤ a0_1
        ·rw [if_pos c50] at H
         have c50b0 := eq_true c50
         have c50b1 := decide_eq_true c50
         clear c50
         obtain ⟨ji51, hji51⟩ : ∃ j_ : Int, (shl .i64 1 a0_1) = j_ := ⟨_, rfl⟩
         replace H : (some (wrap64 (a1_1 - a0_2), decide ((wrap64 (a1_1 - a0_2)) < (ji51)))) = some (r1, r2) := by first | (rw [hji51] at H; exact H) | (simp only [hji51] at H ⊢; exact H)
         have hji51_ : (IntKind.i64.wrap (1 * 2 ^ min a0_1.toNat 64)) = ji51 := hji51
         have hji51z : a0_1 ≤ 64 → (IntKind.i64.wrap (1 * 2 ^ a0_1.toNat)) = ji51 := shl_small hji51
         have hji51u : (IntKind.i64.wrap (2 ^ min a0_1.toNat 64)) = ji51 := by have h_ := hji51_; rw [Int.one_mul] at h_; exact h_
         have hji51v : a0_1 ≤ 64 → (IntKind.i64.wrap (2 ^ a0_1.toNat)) = ji51 := fun hle_ => by have h_ := hji51z hle_; rw [Int.one_mul] at h_; exact h_
         have hji51y : (wrap64 (1 * 2 ^ min a0_1.toNat 64)) = ji51 := (i64_w _).symm.trans hji51_
         have hji51x : a0_1 ≤ 64 → (wrap64 (1 * 2 ^ a0_1.toNat)) = ji51 := fun h_ => (i64_w _).symm.trans (hji51z h_)
         simp only [Option.some.injEq, Prod.mk.injEq] at H
         obtain ⟨rfl, rfl⟩ := H
         have hnb52 := NB384_383.out
         have hnc52 := NB383_384.out
         obtain ⟨hcz53_0, hcz53_1, hfz53_0, hfz53_1⟩ := cz2f BK384.out
         obtain ⟨hcz54_0, hcz54_1, hcz54_2, hcz54_3, hfz54_0, hfz54_1, hfz54_2, hfz54_3⟩ := cz4f BK383.out
         go_wp2
         repeat (go_quiet (fail); try go_wp2)
         go_ret2
         exact ⟨by first | rfl | (simp [errW_none, errW_some] <;> rfl) | (simp only [← hji51]; first | rfl | (simp [errW_none, errW_some] <;> rfl)) | (simp [*, errW_none, errW_some] <;> rfl), bl⟩
        ·rw [if_neg c50] at H
         exact absurd H (by simp)
       ·rw [if_neg c49] at H
        have c49b0 := decide_eq_false c49
        clear c49
        simp only [Option.some.injEq, Prod.mk.injEq] at H
        obtain ⟨rfl, rfl⟩ := H
        have hnb55 := NB384_383.out
        have hnc55 := NB383_384.out
        obtain ⟨hcz56_0, hcz56_1, hfz56_0, hfz56_1⟩ := cz2f BK384.out
        obtain ⟨hcz57_0, hcz57_1, hcz57_2, hcz57_3, hfz57_0, hfz57_1, hfz57_2, hfz57_3⟩ := cz4f BK383.out
        go_wp2
        repeat (go_quiet (fail); try go_wp2)
        go_ret2
        exact ⟨re, bl⟩

/-! ### incunableref04_used: function 61 -/
def incunableref04_used.f (a0_0 : Int) (a0_1 : Int) (a0_2 : Int) (a0_3 : Int) : Option (Bool) := some (decide (a0_0 > 0))
set_option maxHeartbeats 8000000 in
set_option maxRecDepth 100000 in
theorem incunableref04_used.calls (a0_0 : Int) (a0_1 : Int) (a0_2 : Int) (a0_3 : Int) (r : Bool) (w : World) (h : incunableref04_used.f a0_0 a0_1 a0_2 a0_3 = some r) :
  Calls Tryd.prog 61 #[.agg #[.int .i64 a0_0, .int .i64 a0_1, .int .i64 a0_2, .int .i64 a0_3]] w fun e w' => e = .returned (.bool r) ∧ Below w.heap.size w w' := by
 have hu87 := Tryd.underlying87
 have HB := Aside0.mk (Below.refl w.heap.size w)
 have H : (some (decide (a0_0 > 0))) = some r := h
 clear h
 obtain rfl := Option.some.inj H
 go_enter Tryd.func61, Tryd.ntmps61
 go_wp2_with (first | ((with_reducible refine gd 1 rfl ?_); refine bx 1 #[.int .i64 a0_0, .int .i64 a0_1, .int .i64 a0_2, .int .i64 a0_3] 87 rfl rfl ?_; intro gb385 hg w2 hbox hb; have n_ := aC (bs hb) (aC hbox (aC (gz hg) (aE (gz hg)))); clear HB; obtain ⟨HB, BK385, GW385, GE385⟩ := n_; clear hb hbox hg; obtain ⟨hcz3_0, hcz3_1, hcz3_2, hcz3_3, hfz3_0, hfz3_1, hfz3_2, hfz3_3⟩ := cz4f BK385.out))
 go_ret
 exact ⟨re, bl⟩

/-! ### incunableref04_digits: function 63 -/
def incunableref04_digits.l0 : Nat → Int → List Int → Int → Option (List Int)
 | 0, _, _, _ => none
 | k + 1, x0, x5, x6 => if x6 ≥ 0 then (if 0 ≤ x6 then (if x5.length < 140737488355328 then (incunableref04_digits.l0 k x0 (x5 ++ [(Int.tmod (shr .i64 x0 x6) 2) % 256]) (wrap64 (x6 - 1))) else (none)) else (none)) else (some x5)
def incunableref04_digits.f (k : Nat) (a0 : Int) (a1 : Int) : Option (List Int) := incunableref04_digits.l0 k a0 ([] : List Int) (wrap64 (a1 - 1))
theorem incunableref04_digits.mono_l : ∀ k, (∀ y0 y1 y2, LeO (incunableref04_digits.l0 k y0 y1 y2) (incunableref04_digits.l0 (k + 1) y0 y1 y2))
 | 0 => fun _ _ _ r h => by simp [incunableref04_digits.l0] at h
 | k + 1 => by
  have ih0 := incunableref04_digits.mono_l k
  ·intro y0 y1 y2
   unfold incunableref04_digits.l0
   repeat' first
   | (with_reducible exact ih0 _ _ _)
   | (with_reducible first | exact LeO.refl _ | exact LeO.none _ | refine LeO.ite ?_ ?_ | refine LeO.bind ?_ (fun _ => ?_))
   | exact ih0 _ _ _
   | exact LeO.none _ | refine LeO.ite ?_ ?_ | refine LeO.bind ?_ (fun _ => ?_)
theorem incunableref04_digits.mono : ∀ a0 a1 k, LeO (incunableref04_digits.f k a0 a1) (incunableref04_digits.f (k + 1) a0 a1) := by
 intro a0 a1 k
 have ih0 := incunableref04_digits.mono_l k
 unfold incunableref04_digits.f
 repeat' first
   | (with_reducible exact ih0 _ _ _)
   | (with_reducible first | exact LeO.refl _ | exact LeO.none _ | refine LeO.ite ?_ ?_ | refine LeO.bind ?_ (fun _ => ?_))
   | exact ih0 _ _ _
   | exact LeO.none _ | refine LeO.ite ?_ ?_ | refine LeO.bind ?_ (fun _ => ?_)
set_option maxHeartbeats 8000000 in
set_option maxRecDepth 100000 in
theorem incunableref04_digits.calls (k : Nat) (a0 : Int) (a1 : Int) (r : List Int) (w : World) (h : incunableref04_digits.f k a0 a1 = some r) :
  Calls Tryd.prog 63 #[.int .i64 a0, .int .i64 a1] w fun e w' => ∃ v0_ : Value, e = .returned (v0_) ∧ Kd.R (Kd.int .u8) 5 w' w.heap.size (fun _ => True) v0_ r ∧ Below w.heap.size w w' := by
 have HB := Aside0.mk (Below.refl w.heap.size w)
 have H : (incunableref04_digits.l0 k a0 ([] : List Int) (wrap64 (a1 - 1))) = some r := h
 clear h
 have H' := Aside0.mk H
 clear H
 go_enter Tryd.func63, Tryd.ntmps63
 go_wp2
 go_loopg [5, 6] k (fun kq v5 v6 w' => ∃ (x5_1 : List Int) (x6_1 : Int), v6 = .int .i64 x6_1 ∧ Aside0 (incunableref04_digits.l0 kq a0 x5_1 x6_1 = some r) ∧ Aside0 (kq ≤ k) ∧ Aside0 (Kd.R (Kd.int .u8) 5 w' w.heap.size (fun _ => True) v5 x5_1) ∧ Aside0 (Below w.heap.size w w'))
 case atStart => exact ⟨(([] : List Int)), (wrap64 (a1 - 1)), rq, H', ⟨Nat.le_refl _⟩, ⟨by first | exact Kd.R_nil _ _ _ _ _ | exact Kd.N_nil _ _ _ _ _ | exact Kd.V_nil _ _ _ _ _ | exact Kd.Q_nil _ _ _ _ _ | exact Kd.S_nil _ _ _ _ _⟩, ⟨bl⟩⟩
 case round =>
  clear H'
  obtain ⟨x5_1, x6_1, rfl, HA, HK1, HO_5, HB⟩ := hrel
  cases gk with
  | zero => exact absurd HA.out (by simp [incunableref04_digits.l0])
  | succ k1 =>
   have H := HA.out
   clear HA
   simp only [incunableref04_digits.l0] at H
   by_cases c3 : x6_1 ≥ 0
   ·rw [if_pos c3] at H
    have c3b0 := decide_eq_true c3
    clear c3
    by_cases c4 : 0 ≤ x6_1
    ·rw [if_pos c4] at H
     have c4b0 := eq_true c4
     have c4b1 := decide_eq_true c4
     clear c4
     obtain ⟨ji5, hji5⟩ : ∃ j_ : Int, (shr .i64 a0 x6_1) = j_ := ⟨_, rfl⟩
     replace H : (if x5_1.length < 140737488355328 then (incunableref04_digits.l0 k1 a0 (x5_1 ++ [(Int.tmod (ji5) 2) % 256]) (wrap64 (x6_1 - 1))) else (none)) = some r := by first | (rw [hji5] at H; exact H) | (simp only [hji5] at H ⊢; exact H)
     have hji5_ : (a0 / 2 ^ min x6_1.toNat 64) = ji5 := hji5
     have hji5z : x6_1 ≤ 64 → (a0 / 2 ^ x6_1.toNat) = ji5 := shr_small hji5
     by_cases c6 : x5_1.length < 140737488355328
     ·rw [if_pos c6] at H
      have LMc6 := Aside0.mk c6
      clear c6
      obtain ⟨y386, hy_⟩ : ∃ y_ : List Int, y_ = (x5_1 ++ [(Int.tmod (ji5) 2) % 256]) := ⟨_, rfl⟩
      replace H : (incunableref04_digits.l0 k1 a0 y386 (wrap64 (x6_1 - 1))) = some r := rh
      have Ny386 := aE hy_
      clear hy_
      have H' := Aside0.mk H
      clear H
      go_wp2_with (first | ((with_reducible refine gate_builtin (b := .append) (xs := #[.tmp 13, .tmp 19]) rfl ?_); at_builtin; refine Kd.R_append (Kd.int .u8) (w0 := w) w.heap.size rfl (.tmp 13) (.tmp 19) 22 5 (.int .u8 0) 1 rfl Tryd.underlying22 info5 rfl (by decide) (by omega) u5 x5_1 ((Int.tmod (ji5) 2) % 256) [.int .u8 ((Int.tmod (ji5) 2) % 256)] (fun _ => True) (fun _ => False) rfl rfl ?aP (fun _ hk => hk.elim) ?aF ?aO ?aB ?aS ?aL ?_; (case aP => exact rfl); (case aB => exact bl); (case aF => exact (fun _ _ => trivial)); (case aO => exact (rU HO_5.out)); (case aS => exact bz); (case aL => have := LMc6.out; omega); intro v387 w7 ho hb hg hat; rw [← Ny386.out] at ho; have n_ := aC hb (aE ho); clear HB HO_5; obtain ⟨HB, HO388⟩ := n_; clear ho hb hg hat))
      go_roundg k1
      case measure => have := HK1.out; omega
      case rel => exact ⟨(y386), (wrap64 (x6_1 - 1)), rq, H', ⟨by have := HK1.out; omega⟩, ⟨rU HO388.out⟩, ⟨bl⟩⟩
     ·rw [if_neg c6] at H
      exact absurd H (by simp)
    ·rw [if_neg c4] at H
     exact absurd H (by simp)
   ·rw [if_neg c3] at H
    have c3b0 := decide_eq_false c3
    clear c3
    obtain rfl := Option.some.inj H
    go_wp2
    go_ret
    exact ⟨_, re, rU HO_5.out, bl⟩

end Go.Proofs.YtknclbodinfbeaaDoor.PRunsCodes
