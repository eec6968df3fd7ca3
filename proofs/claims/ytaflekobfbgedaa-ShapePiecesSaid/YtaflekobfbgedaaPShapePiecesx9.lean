-- Written by a program of this session (wip/tools/myprint.py) over the kit's print. Not trusted: Lean checks it.
import Derived.Test.YtaflekobfbgedaaPShapePiecesx0
import Derived.Test.YtaflekobfbgedaaPShapePiecesx1
import Derived.Test.YtaflekobfbgedaaPShapePiecesx4
import Derived.Test.YtaflekobfbgedaaPShapePiecesx8
namespace Go.Proofs.Ytaflekobfbgedaa.PShapePieces
open Go.RowKit Go.Proofs.YtaflekobfbgedaaW.PrintWords Go.Proofs.YtaflekobfbgedaaW.PrintLast Go.Proofs.YtaflekobfbgedaaW.PrintMore
attribute [local go_sem] max2_int min2_int max_two min_two max_three min_three max_four min_four   -- for this text's walks alone
set_option linter.unusedVariables false
set_option linter.unusedSimpArgs false

/-! ### bitmap_Trim: function 92 -/
def bitmap_Trim.l0 : Nat → Int → Int → Int → Int → List Int → Int → Int → Int → Int → List Int → Option (Int × Int × List Int × Int × Int × Int)
 | 0, _, _, _, _, _, _, _, _, _, _ => none
 | k + 1, x6, x7, x8, x9, x21, x22, x23, x279000, x279001, x279002 => if x23 < x22 then (if 0 ≤ x23 then (if x23 < (x21.length : Int) then (if (rd x21 x23) = 1 then (if x279000 = 0 then (none) else (bitmap_Trim.l0 k (mn x6 (Int.tmod x23 x279000)) (mn x7 (wrap64 (Int.tdiv x23 x279000))) (mx x8 (Int.tmod x23 x279000)) (mx x9 (wrap64 (Int.tdiv x23 x279000))) x21 x22 (wrap64 (x23 + 1)) x279000 x279001 x279002)) else (bitmap_Trim.l0 k x6 x7 x8 x9 x21 x22 (wrap64 (x23 + 1)) x279000 x279001 x279002)) else (none)) else (none)) else (if x8 < 0 then (some (0, 0, ([] : List Int), 0, 0, 0)) else ((bitmap_Cut.f k x279000 x279001 x279002 x6 x7 (wrap64 ((wrap64 (x8 - x6)) + 1)) (wrap64 ((wrap64 (x9 - x7)) + 1))).bind fun bt282 => (some (bt282.1, bt282.2.1, bt282.2.2.1, x6, x7, bt282.2.2.2))))
def bitmap_Trim.f (k : Nat) (a0_0 : Int) (a0_1 : Int) (l0_2 : List Int) : Option (Int × Int × List Int × Int × Int × Int) := (bitmap_Valid.f k a0_0 a0_1 l0_2).bind fun t280 => (if t280 = true then (bitmap_Trim.l0 k a0_0 a0_1 (-1) (-1) l0_2 (l0_2.length : Int) 0 a0_0 a0_1 l0_2) else (some (0, 0, ([] : List Int), 0, 0, 30)))
theorem bitmap_Trim.mono_l : ∀ k, (∀ y0 y1 y2 y3 y4 y5 y6 y7 y8 y9, LeO (bitmap_Trim.l0 k y0 y1 y2 y3 y4 y5 y6 y7 y8 y9) (bitmap_Trim.l0 (k + 1) y0 y1 y2 y3 y4 y5 y6 y7 y8 y9))
 | 0 => fun _ _ _ _ _ _ _ _ _ _ r h => by simp [bitmap_Trim.l0] at h
 | k + 1 => by
  have ih0 := bitmap_Trim.mono_l k
  ·intro y0 y1 y2 y3 y4 y5 y6 y7 y8 y9
   unfold bitmap_Trim.l0
   repeat' first
   | (with_reducible exact ih0 _ _ _ _ _ _ _ _ _ _)
   | (with_reducible exact bitmap_Cut.mono _ _ _ _ _ _ _ _)
   | (with_reducible exact bitmap_Valid.mono _ _ _ _)
   | (with_reducible first | exact LeO.refl _ | exact LeO.none _ | refine LeO.ite ?_ ?_ | refine LeO.bind ?_ (fun _ => ?_))
   | exact ih0 _ _ _ _ _ _ _ _ _ _
   | exact bitmap_Cut.mono _ _ _ _ _ _ _ _
   | exact bitmap_Valid.mono _ _ _ _
   | exact LeO.none _ | refine LeO.ite ?_ ?_ | refine LeO.bind ?_ (fun _ => ?_)
theorem bitmap_Trim.mono : ∀ a0 a1 a2 k, LeO (bitmap_Trim.f k a0 a1 a2) (bitmap_Trim.f (k + 1) a0 a1 a2) := by
 intro a0 a1 a2 k
 have ih0 := bitmap_Trim.mono_l k
 unfold bitmap_Trim.f
 repeat' first
   | (with_reducible exact ih0 _ _ _ _ _ _ _ _ _ _)
   | (with_reducible exact bitmap_Cut.mono _ _ _ _ _ _ _ _)
   | (with_reducible exact bitmap_Valid.mono _ _ _ _)
   | (with_reducible first | exact LeO.refl _ | exact LeO.none _ | refine LeO.ite ?_ ?_ | refine LeO.bind ?_ (fun _ => ?_))
   | exact ih0 _ _ _ _ _ _ _ _ _ _
   | exact bitmap_Cut.mono _ _ _ _ _ _ _ _
   | exact bitmap_Valid.mono _ _ _ _
   | exact LeO.none _ | refine LeO.ite ?_ ?_ | refine LeO.bind ?_ (fun _ => ?_)
set_option maxHeartbeats 8000000 in
set_option maxRecDepth 100000 in
theorem bitmap_Trim.calls (k : Nat) (a0_0 : Int) (a0_1 : Int) (A0_2 : Option Addr) (c0_2 : Nat) (l0_2 : List Int) (r1 : Int) (r2 : Int) (r3 : List Int) (r4 : Int) (r5 : Int) (r6 : Int) (w : World) (hr0_2 : Kd.C (Kd.int .u8) w A0_2 l0_2.length l0_2) (hc0_2 : l0_2.length ≤ c0_2) (h : bitmap_Trim.f k a0_0 a0_1 l0_2 = some (r1, r2, r3, r4, r5, r6)) :
  Calls Try.prog 92 #[.agg #[.int .i64 a0_0, .int .i64 a0_1, .slice A0_2 l0_2.length c0_2]] w fun e w' => ∃ v2_ : Value, e = .returned (.tuple #[.agg #[.int .i64 r1, .int .i64 r2, v2_], .int .i64 r4, .int .i64 r5, .int .i64 r6]) ∧ Kd.R (Kd.int .u8) 5 w' w.heap.size (fun _ => True) v2_ r3 ∧ Below w.heap.size w w' := by
 have hu24 := Try.underlying24
 have HR0_2 := Aside0.mk hr0_2
 have HC0_2 := Aside0.mk hc0_2
 clear hr0_2 hc0_2
 have HB := Aside0.mk (Below.refl w.heap.size w)
 have H : ((bitmap_Valid.f k a0_0 a0_1 l0_2).bind fun t280 => (if t280 = true then (bitmap_Trim.l0 k a0_0 a0_1 (-1) (-1) l0_2 (l0_2.length : Int) 0 a0_0 a0_1 l0_2) else (some (0, 0, ([] : List Int), 0, 0, 30)))) = some (r1, r2, r3, r4, r5, r6) := h
 clear h
 replace H := Option.bind_eq_some_iff.mp H
 obtain ⟨t280, A20, H⟩ := H
 replace H : (if t280 = true then (bitmap_Trim.l0 k a0_0 a0_1 (-1) (-1) l0_2 (l0_2.length : Int) 0 a0_0 a0_1 l0_2) else (some (0, 0, ([] : List Int), 0, 0, 30))) = some (r1, r2, r3, r4, r5, r6) := H
 have A2 := Aside0.mk A20
 clear A20
 by_cases c3 : t280 = true
 ·subst c3
  have H1 : (bitmap_Trim.l0 k a0_0 a0_1 (-1) (-1) l0_2 (l0_2.length : Int) 0 a0_0 a0_1 l0_2) = some (r1, r2, r3, r4, r5, r6) := by rw [if_pos rfl] at H; exact H
  clear H
  have H := H1
  clear H1
  have H' := Aside0.mk H
  clear H
  go_enter Try.func92, Try.ntmps92
  go_wp2_with (first | ((with_reducible refine gd 1 rfl ?_); refine bx 1 #[.int .i64 a0_0, .int .i64 a0_1, .slice A0_2 l0_2.length c0_2] 24 rfl rfl ?_; intro gb278 hg w4 hbox hb; have n_ := aC (bs hb) (aC hbox (aC (gz hg) (aE (gz hg)))); clear HB; obtain ⟨HB, BK278, GW278, GE278⟩ := n_; clear hb hbox hg) | ((with_reducible refine gd 2 rfl ?_); refine bx 2 #[.int .i64 0, .int .i64 0, .slice none 0 0] 24 rfl rfl ?_; intro gb279 hg w5 hbox hb; have n_ := aC (blk_below (bU BK278.out) hb) (aC (bs hb) (aC hbox (aC (gz hg) (aC (gz hg) (aC (gn hg (bU BK278.out)) (aE (gm hg (bU BK278.out)))))))); clear BK278 HB; obtain ⟨BK278, HB, BK279, GW279, GE279, NB278_279, NB279_278⟩ := n_; clear hb hbox hg; have hnb6 := NB278_279.out; have hnc6 := NB279_278.out; obtain ⟨hcz7_0, hcz7_1, hcz7_2, hfz7_0, hfz7_1, hfz7_2⟩ := cz3f BK278.out) | (go_at_call 38; (with_reducible refine (bitmap_Valid.calls k a0_0 a0_1 _ _ l0_2 true _ ?side1 ?side2 A2.out).mono ?_); (case side1 => exact cU (Kd.C_below HR0_2.out HB.out)); (case side2 => exact HC0_2.out); rintro e w8 ⟨rfl, hb⟩; have n_ := aC (blk_below (bU BK278.out) hb) (aC (blk_below (bU BK279.out) hb) (aE (bs hb))); clear BK278 BK279 HB; obtain ⟨BK278, BK279, HB⟩ := n_; (try clear hb); obtain ⟨hcz9_0, hcz9_1, hcz9_2, hfz9_0, hfz9_1, hfz9_2⟩ := cz3f BK278.out))
  repeat (go_quiet (first | ((with_reducible refine gd 1 rfl ?_); refine bx 1 #[.int .i64 a0_0, .int .i64 a0_1, .slice A0_2 l0_2.length c0_2] 24 rfl rfl ?_; intro gb278 hg w4 hbox hb; have n_ := aC (bs hb) (aC hbox (aC (gz hg) (aE (gz hg)))); clear HB; obtain ⟨HB, BK278, GW278, GE278⟩ := n_; clear hb hbox hg) | ((with_reducible refine gd 2 rfl ?_); refine bx 2 #[.int .i64 0, .int .i64 0, .slice none 0 0] 24 rfl rfl ?_; intro gb279 hg w5 hbox hb; have n_ := aC (blk_below (bU BK278.out) hb) (aC (bs hb) (aC hbox (aC (gz hg) (aC (gz hg) (aC (gn hg (bU BK278.out)) (aE (gm hg (bU BK278.out)))))))); clear BK278 HB; obtain ⟨BK278, HB, BK279, GW279, GE279, NB278_279, NB279_278⟩ := n_; clear hb hbox hg; have hnb6 := NB278_279.out; have hnc6 := NB279_278.out; obtain ⟨hcz7_0, hcz7_1, hcz7_2, hfz7_0, hfz7_1, hfz7_2⟩ := cz3f BK278.out) | (go_at_call 38; (with_reducible refine (bitmap_Valid.calls k a0_0 a0_1 _ _ l0_2 true _ ?side1 ?side2 A2.out).mono ?_); (case side1 => exact cU (Kd.C_below HR0_2.out HB.out)); (case side2 => exact HC0_2.out); rintro e w8 ⟨rfl, hb⟩; have n_ := aC (blk_below (bU BK278.out) hb) (aC (blk_below (bU BK279.out) hb) (aE (bs hb))); clear BK278 BK279 HB; obtain ⟨BK278, BK279, HB⟩ := n_; (try clear hb); obtain ⟨hcz9_0, hcz9_1, hcz9_2, hfz9_0, hfz9_1, hfz9_2⟩ := cz3f BK278.out)); try go_wp2_with (first | ((with_reducible refine gd 1 rfl ?_); refine bx 1 #[.int .i64 a0_0, .int .i64 a0_1, .slice A0_2 l0_2.length c0_2] 24 rfl rfl ?_; intro gb278 hg w4 hbox hb; have n_ := aC (bs hb) (aC hbox (aC (gz hg) (aE (gz hg)))); clear HB; obtain ⟨HB, BK278, GW278, GE278⟩ := n_; clear hb hbox hg) | ((with_reducible refine gd 2 rfl ?_); refine bx 2 #[.int .i64 0, .int .i64 0, .slice none 0 0] 24 rfl rfl ?_; intro gb279 hg w5 hbox hb; have n_ := aC (blk_below (bU BK278.out) hb) (aC (bs hb) (aC hbox (aC (gz hg) (aC (gz hg) (aC (gn hg (bU BK278.out)) (aE (gm hg (bU BK278.out)))))))); clear BK278 HB; obtain ⟨BK278, HB, BK279, GW279, GE279, NB278_279, NB279_278⟩ := n_; clear hb hbox hg; have hnb6 := NB278_279.out; have hnc6 := NB279_278.out; obtain ⟨hcz7_0, hcz7_1, hcz7_2, hfz7_0, hfz7_1, hfz7_2⟩ := cz3f BK278.out) | (go_at_call 38; (with_reducible refine (bitmap_Valid.calls k a0_0 a0_1 _ _ l0_2 true _ ?side1 ?side2 A2.out).mono ?_); (case side1 => exact cU (Kd.C_below HR0_2.out HB.out)); (case side2 => exact HC0_2.out); rintro e w8 ⟨rfl, hb⟩; have n_ := aC (blk_below (bU BK278.out) hb) (aC (blk_below (bU BK279.out) hb) (aE (bs hb))); clear BK278 BK279 HB; obtain ⟨BK278, BK279, HB⟩ := n_; (try clear hb); obtain ⟨hcz9_0, hcz9_1, hcz9_2, hfz9_0, hfz9_1, hfz9_2⟩ := cz3f BK278.out)))
  go_loopg [6, 7, 8, 9, 23] k (fun kq v6 v7 v8 v9 v23 w' => ∃ (x6_1 : Int) (x7_1 : Int) (x8_1 : Int) (x9_1 : Int) (x23_1 : Int), v6 = .int .i64 x6_1 ∧ v7 = .int .i64 x7_1 ∧ v8 = .int .i64 x8_1 ∧ v9 = .int .i64 x9_1 ∧ v23 = .int .i64 x23_1 ∧ Aside0 (bitmap_Trim.l0 kq x6_1 x7_1 x8_1 x9_1 l0_2 (l0_2.length : Int) x23_1 a0_0 a0_1 l0_2 = some (r1, r2, r3, r4, r5, r6)) ∧ Aside0 (kq ≤ k) ∧ Aside0 (w'.heap[gb278]? = some (.cells #[.int .i64 a0_0, .int .i64 a0_1, (.slice A0_2 l0_2.length c0_2)] 24 (0, 0))) ∧ Aside0 (w'.heap[gb279]? = some (.cells #[.int .i64 0, .int .i64 0, (.slice none 0 0)] 24 (0, 0))) ∧ Aside0 (Below w.heap.size w w'))
  case atStart => exact ⟨(a0_0), (a0_1), ((-1)), ((-1)), (0), rq, rq, rq, rq, rq, H', ⟨Nat.le_refl _⟩, ⟨bU BK278.out⟩, ⟨bU BK279.out⟩, ⟨bl⟩⟩
  case round =>
   clear H'
   obtain ⟨x6_1, x7_1, x8_1, x9_1, x23_1, rfl, rfl, rfl, rfl, rfl, HA, HK1, BK278, BK279, HB⟩ := hrel
   cases gk with
   | zero => exact absurd HA.out (by simp [bitmap_Trim.l0])
   | succ k1 =>
    have H := HA.out
    clear HA
    simp only [bitmap_Trim.l0] at H
    by_cases c10 : x23_1 < (l0_2.length : Int)
    ·rw [if_pos c10] at H
     have c10b0 := decide_eq_true c10
     clear c10
     by_cases c11 : 0 ≤ x23_1
     ·rw [if_pos c11] at H
      have c11b0 := decide_eq_true c11
      clear c11
      by_cases c12 : x23_1 < (l0_2.length : Int)
      ·rw [if_pos c12] at H
       have c12b0 := decide_eq_true c12
       clear c12
       by_cases c13 : (rd l0_2 x23_1) = 1
       ·rw [if_pos c13] at H
        have c13b0 := beq_iff_eq.mpr c13
        have c13b1 := bne_eq_false_iff_eq.mpr c13
        clear c13
        by_cases c14 : a0_0 = 0
        ·rw [if_pos c14] at H
         exact absurd H (by simp)
        ·rw [if_neg c14] at H
         have c14b0 := beq_eq_false_iff_ne.mpr c14
         have c14b1 := bne_iff_ne.mpr c14
         obtain ⟨ji15, hji15⟩ : ∃ j_ : Int, (mn x6_1 (Int.tmod x23_1 a0_0)) = j_ := ⟨_, rfl⟩
         replace H : (bitmap_Trim.l0 k1 ji15 (mn x7_1 (wrap64 (Int.tdiv x23_1 a0_0))) (mx x8_1 (Int.tmod x23_1 a0_0)) (mx x9_1 (wrap64 (Int.tdiv x23_1 a0_0))) l0_2 (l0_2.length : Int) (wrap64 (x23_1 + 1)) a0_0 a0_1 l0_2) = some (r1, r2, r3, r4, r5, r6) := by first | (rw [hji15] at H; exact H) | (simp only [hji15] at H ⊢; exact H)
         have hji15_ : (if (Int.tmod x23_1 a0_0) < x6_1 then (Int.tmod x23_1 a0_0) else x6_1) = ji15 := hji15
         obtain ⟨ji16, hji16⟩ : ∃ j_ : Int, (mx x8_1 (Int.tmod x23_1 a0_0)) = j_ := ⟨_, rfl⟩
         replace H : (bitmap_Trim.l0 k1 ji15 (mn x7_1 (wrap64 (Int.tdiv x23_1 a0_0))) ji16 (mx x9_1 (wrap64 (Int.tdiv x23_1 a0_0))) l0_2 (l0_2.length : Int) (wrap64 (x23_1 + 1)) a0_0 a0_1 l0_2) = some (r1, r2, r3, r4, r5, r6) := by first | (rw [hji16] at H; exact H) | (simp only [hji16] at H ⊢; exact H)
         have hji16_ : (if x8_1 < (Int.tmod x23_1 a0_0) then (Int.tmod x23_1 a0_0) else x8_1) = ji16 := hji16
         obtain ⟨ji17, hji17⟩ : ∃ j_ : Int, (mn x7_1 (wrap64 (Int.tdiv x23_1 a0_0))) = j_ := ⟨_, rfl⟩
         replace H : (bitmap_Trim.l0 k1 ji15 ji17 ji16 (mx x9_1 (wrap64 (Int.tdiv x23_1 a0_0))) l0_2 (l0_2.length : Int) (wrap64 (x23_1 + 1)) a0_0 a0_1 l0_2) = some (r1, r2, r3, r4, r5, r6) := by first | (rw [hji17] at H; exact H) | (simp only [hji17] at H ⊢; exact H)
         have hji17_ : (if (wrap64 (Int.tdiv x23_1 a0_0)) < x7_1 then (wrap64 (Int.tdiv x23_1 a0_0)) else x7_1) = ji17 := hji17
         obtain ⟨ji18, hji18⟩ : ∃ j_ : Int, (mx x9_1 (wrap64 (Int.tdiv x23_1 a0_0))) = j_ := ⟨_, rfl⟩
         replace H : (bitmap_Trim.l0 k1 ji15 ji17 ji16 ji18 l0_2 (l0_2.length : Int) (wrap64 (x23_1 + 1)) a0_0 a0_1 l0_2) = some (r1, r2, r3, r4, r5, r6) := by first | (rw [hji18] at H; exact H) | (simp only [hji18] at H ⊢; exact H)
         have hji18_ : (if x9_1 < (wrap64 (Int.tdiv x23_1 a0_0)) then (wrap64 (Int.tdiv x23_1 a0_0)) else x9_1) = ji18 := hji18
         have H' := Aside0.mk H
         clear H
         have p281 : 0 ≤ (x23_1 : Int) := dt
         have q281 : x23_1 < (l0_2.length : Int) := dt
         obtain ⟨ad281, e281, hx281_0⟩ := Kd.at_int HR0_2.out x23_1 p281 q281
         cases e281
         replace hx281_0 := hcB HB.out hx281_0
         replace p281 := eq_true p281
         replace q281 := eq_true q281
         have hnb19 := NB278_279.out
         have hnc19 := NB279_278.out
         obtain ⟨hcz20_0, hcz20_1, hcz20_2, hfz20_0, hfz20_1, hfz20_2⟩ := cz3f BK278.out
         go_wp2
         repeat (go_quiet (fail); try go_wp2)
         go_roundg k1
         case measure => have := HK1.out; omega
         case rel => exact ⟨(ji15), (ji17), (ji16), (ji18), (wrap64 (x23_1 + 1)), (by first | rfl | (simp; done) | (simp only [← hji15] <;> (first | rfl | simp)) | (simp [*]; done)), (by first | rfl | (simp; done) | (simp only [← hji17] <;> (first | rfl | simp)) | (simp [*]; done)), (by first | rfl | (simp; done) | (simp only [← hji16] <;> (first | rfl | simp)) | (simp [*]; done)), (by first | rfl | (simp; done) | (simp only [← hji18] <;> (first | rfl | simp)) | (simp [*]; done)), rq, H', ⟨by have := HK1.out; omega⟩, ⟨bU BK278.out⟩, ⟨bU BK279.out⟩, ⟨bl⟩⟩
       ·rw [if_neg c13] at H
        have c13b0 := beq_eq_false_iff_ne.mpr c13
        have c13b1 := bne_iff_ne.mpr c13
        have H' := Aside0.mk H
        clear H
        have p281 : 0 ≤ (x23_1 : Int) := dt
        have q281 : x23_1 < (l0_2.length : Int) := dt
        obtain ⟨ad281, e281, hx281_0⟩ := Kd.at_int HR0_2.out x23_1 p281 q281
        cases e281
        replace hx281_0 := hcB HB.out hx281_0
        replace p281 := eq_true p281
        replace q281 := eq_true q281
        go_wp2
        go_roundg k1
        case measure => have := HK1.out; omega
        case rel => exact ⟨(x6_1), (x7_1), (x8_1), (x9_1), (wrap64 (x23_1 + 1)), rq, rq, rq, rq, rq, H', ⟨by have := HK1.out; omega⟩, ⟨bU BK278.out⟩, ⟨bU BK279.out⟩, ⟨bl⟩⟩
      ·rw [if_neg c12] at H
       exact absurd H (by simp)
     ·rw [if_neg c11] at H
      exact absurd H (by simp)
    ·rw [if_neg c10] at H
     have c10b0 := decide_eq_false c10
     clear c10
     by_cases c21 : x8_1 < 0
     ·rw [if_pos c21] at H
      have c21b0 := decide_eq_true c21
      clear c21
      simp only [Option.some.injEq, Prod.mk.injEq] at H
      obtain ⟨rfl, rfl, rfl, rfl, rfl, rfl⟩ := H
      have hnb22 := NB279_278.out
      have hnc22 := NB278_279.out
      obtain ⟨hcz23_0, hcz23_1, hcz23_2, hfz23_0, hfz23_1, hfz23_2⟩ := cz3f BK279.out
      go_wp2
      refine bodyPost_ret (results_list (rs := [.cell 2 24, .tmp 3, .tmp 4, .tmp 5]) rfl (by simp) (.cell gb279 24 #[.int .i64 0, .int .i64 0, .slice none 0 0] (0, 0) _ rfl (by (with_reducible repeat (first | refine blk_drewN ?_ _ | refine blk_drew ?_ | refine blk_alloc ?_ _)); refine blk_put (cs := #[.int .i64 0, .int .i64 0, .slice none 0 0]) ?_ 2 _ rfl; (with_reducible repeat (first | refine blk_drewN ?_ _ | refine blk_drew ?_ | refine blk_alloc ?_ _)); refine blk_put (cs := #[.int .i64 0, .int .i64 0, .slice none 0 0]) ?_ 1 _ rfl; (with_reducible repeat (first | refine blk_drewN ?_ _ | refine blk_drew ?_ | refine blk_alloc ?_ _)); refine blk_put (cs := #[.int .i64 0, .int .i64 0, .slice none 0 0]) ?_ 0 _ rfl; (with_reducible repeat (first | refine blk_drewN ?_ _ | refine blk_drew ?_ | refine blk_alloc ?_ _)); exact BK279.out) Try.underlying24 rfl (by kernel_rfl) (.tmp (.tmp (.tmp .nil))))) rfl ?_
      exact ⟨_, re, by first | exact Kd.R_nil _ _ _ _ _ | exact Kd.N_nil _ _ _ _ _ | exact Kd.V_nil _ _ _ _ _ | exact Kd.Q_nil _ _ _ _ _ | exact Kd.S_nil _ _ _ _ _, bl⟩
     ·rw [if_neg c21] at H
      have c21b0 := decide_eq_false c21
      clear c21
      replace H := Option.bind_eq_some_iff.mp H
      obtain ⟨⟨t282, t283, t284, t287⟩, A240, H⟩ := H
      replace H : (some (t282, t283, t284, x6_1, x7_1, t287)) = some (r1, r2, r3, r4, r5, r6) := H
      have A24 := Aside0.mk A240
      clear A240
      simp only [Option.some.injEq, Prod.mk.injEq] at H
      obtain ⟨rfl, rfl, rfl, rfl, rfl, rfl⟩ := H
      have hnb25 := NB278_279.out
      have hnc25 := NB279_278.out
      obtain ⟨hcz26_0, hcz26_1, hcz26_2, hfz26_0, hfz26_1, hfz26_2⟩ := cz3f BK278.out
      go_wp2_with (first | (go_at_call 91; (with_reducible refine (bitmap_Cut.calls k1 a0_0 a0_1 _ _ l0_2 x6_1 x7_1 (wrap64 ((wrap64 (x8_1 - x6_1)) + 1)) (wrap64 ((wrap64 (x9_1 - x7_1)) + 1)) t282 t283 t284 t287 _ ?side1 ?side2 A24.out).mono ?_); (case side1 => exact cU (Kd.C_below HR0_2.out HB.out)); (case side2 => exact HC0_2.out); rintro e w27 ⟨v285, rfl, ho0, hb⟩; have n_ := aC (Kd.R_lower ho0 bz) (aC (blk_below (bU BK278.out) hb) (aC (blk_below (bU BK279.out) hb) (aE (bs hb)))); clear BK278 BK279 HB; obtain ⟨HO286, BK278, BK279, HB⟩ := n_; (try clear hb); (try clear ho0); obtain ⟨hcz28_0, hcz28_1, hcz28_2, hfz28_0, hfz28_1, hfz28_2⟩ := cz3f BK279.out; obtain ⟨Ao29, co29, eo29⟩ := Kd.R_slice HO286.out; subst eo29))
      refine bodyPost_ret (results_list (rs := [.cell 2 24, .tmp 3, .tmp 4, .tmp 5]) rfl (by simp) (.cell gb279 24 #[.int .i64 t282, .int .i64 t283, .slice Ao29 t284.length co29] (0, 0) _ rfl (by (with_reducible repeat (first | refine blk_drewN ?_ _ | refine blk_drew ?_ | refine blk_alloc ?_ _)); refine blk_put (cs := #[.int .i64 t282, .int .i64 t283, .slice Ao29 t284.length co29]) ?_ 2 _ rfl; (with_reducible repeat (first | refine blk_drewN ?_ _ | refine blk_drew ?_ | refine blk_alloc ?_ _)); refine blk_put (cs := #[.int .i64 t282, .int .i64 t283, .slice Ao29 t284.length co29]) ?_ 1 _ rfl; (with_reducible repeat (first | refine blk_drewN ?_ _ | refine blk_drew ?_ | refine blk_alloc ?_ _)); refine blk_put (cs := #[.int .i64 t282, .int .i64 t283, .slice Ao29 t284.length co29]) ?_ 0 _ rfl; (with_reducible repeat (first | refine blk_drewN ?_ _ | refine blk_drew ?_ | refine blk_alloc ?_ _)); refine blk_put (cs := #[.int .i64 t282, .int .i64 t283, .slice none 0 0]) ?_ 2 _ rfl; (with_reducible repeat (first | refine blk_drewN ?_ _ | refine blk_drew ?_ | refine blk_alloc ?_ _)); refine blk_put (cs := #[.int .i64 t282, .int .i64 0, .slice none 0 0]) ?_ 1 _ rfl; (with_reducible repeat (first | refine blk_drewN ?_ _ | refine blk_drew ?_ | refine blk_alloc ?_ _)); refine blk_put (cs := #[.int .i64 0, .int .i64 0, .slice none 0 0]) ?_ 0 _ rfl; (with_reducible repeat (first | refine blk_drewN ?_ _ | refine blk_drew ?_ | refine blk_alloc ?_ _)); exact BK279.out) Try.underlying24 rfl (by kernel_rfl) (.tmp (.tmp (.tmp .nil))))) rfl ?_
      exact ⟨_, re, rU (Kd.R_mono (Kd.R_far (p := ⟨gb279, 2, none⟩) (Kd.R_far (p := ⟨gb279, 1, none⟩) (Kd.R_far (p := ⟨gb279, 0, none⟩) (Kd.R_far (p := ⟨gb279, 2, none⟩) (Kd.R_far (p := ⟨gb279, 1, none⟩) (Kd.R_far (p := ⟨gb279, 0, none⟩) (Kd.R_types HO286.out BK279.out (by decide)) (fun _ hk => hk.2) (.int .i64 t282)) (fun _ hk => hk.2) (.int .i64 t283)) (fun _ hk => hk.2) (.slice Ao29 t284.length co29)) (fun _ hk => hk.2) (.int .i64 t282)) (fun _ hk => hk.2) (.int .i64 t283)) (fun _ hk => hk.2) (.slice Ao29 t284.length co29)) (fun _ hk => trivial)), bl⟩
 ·replace c3 := Bool.eq_false_iff.mpr c3
  subst c3
  have H1 : (some (0, 0, ([] : List Int), 0, 0, 30)) = some (r1, r2, r3, r4, r5, r6) := by rw [if_neg (show ¬ (false = true) by decide)] at H; exact H
  clear H
  have H := H1
  clear H1
  simp only [Option.some.injEq, Prod.mk.injEq] at H
  obtain ⟨rfl, rfl, rfl, rfl, rfl, rfl⟩ := H
  go_enter Try.func92, Try.ntmps92
  go_wp2_with (first | ((with_reducible refine gd 1 rfl ?_); refine bx 1 #[.int .i64 a0_0, .int .i64 a0_1, .slice A0_2 l0_2.length c0_2] 24 rfl rfl ?_; intro gb278 hg w30 hbox hb; have n_ := aC (bs hb) (aC hbox (aC (gz hg) (aE (gz hg)))); clear HB; obtain ⟨HB, BK278, GW278, GE278⟩ := n_; clear hb hbox hg) | ((with_reducible refine gd 2 rfl ?_); refine bx 2 #[.int .i64 0, .int .i64 0, .slice none 0 0] 24 rfl rfl ?_; intro gb279 hg w31 hbox hb; have n_ := aC (blk_below (bU BK278.out) hb) (aC (bs hb) (aC hbox (aC (gz hg) (aC (gz hg) (aC (gn hg (bU BK278.out)) (aE (gm hg (bU BK278.out)))))))); clear BK278 HB; obtain ⟨BK278, HB, BK279, GW279, GE279, NB278_279, NB279_278⟩ := n_; clear hb hbox hg; have hnb32 := NB278_279.out; have hnc32 := NB279_278.out; obtain ⟨hcz33_0, hcz33_1, hcz33_2, hfz33_0, hfz33_1, hfz33_2⟩ := cz3f BK278.out) | (go_at_call 38; (with_reducible refine (bitmap_Valid.calls k a0_0 a0_1 _ _ l0_2 false _ ?side1 ?side2 A2.out).mono ?_); (case side1 => exact cU (Kd.C_below HR0_2.out HB.out)); (case side2 => exact HC0_2.out); rintro e w34 ⟨rfl, hb⟩; have n_ := aC (blk_below (bU BK278.out) hb) (aC (blk_below (bU BK279.out) hb) (aE (bs hb))); clear BK278 BK279 HB; obtain ⟨BK278, BK279, HB⟩ := n_; (try clear hb); obtain ⟨hcz35_0, hcz35_1, hcz35_2, hfz35_0, hfz35_1, hfz35_2⟩ := cz3f BK279.out))
  refine bodyPost_ret (results_list (rs := [.cell 2 24, .tmp 3, .tmp 4, .tmp 5]) rfl (by simp) (.cell gb279 24 #[.int .i64 0, .int .i64 0, .slice none 0 0] (0, 0) _ rfl (by (with_reducible repeat (first | refine blk_drewN ?_ _ | refine blk_drew ?_ | refine blk_alloc ?_ _)); refine blk_put (cs := #[.int .i64 0, .int .i64 0, .slice none 0 0]) ?_ 2 _ rfl; (with_reducible repeat (first | refine blk_drewN ?_ _ | refine blk_drew ?_ | refine blk_alloc ?_ _)); refine blk_put (cs := #[.int .i64 0, .int .i64 0, .slice none 0 0]) ?_ 1 _ rfl; (with_reducible repeat (first | refine blk_drewN ?_ _ | refine blk_drew ?_ | refine blk_alloc ?_ _)); refine blk_put (cs := #[.int .i64 0, .int .i64 0, .slice none 0 0]) ?_ 0 _ rfl; (with_reducible repeat (first | refine blk_drewN ?_ _ | refine blk_drew ?_ | refine blk_alloc ?_ _)); exact BK279.out) Try.underlying24 rfl (by kernel_rfl) (.tmp (.tmp (.tmp .nil))))) rfl ?_
  exact ⟨_, re, by first | exact Kd.R_nil _ _ _ _ _ | exact Kd.N_nil _ _ _ _ _ | exact Kd.V_nil _ _ _ _ _ | exact Kd.Q_nil _ _ _ _ _ | exact Kd.S_nil _ _ _ _ _, bl⟩

/-! ### shape_tiles: function 64 -/
mutual
def shape_tiles.j0 : Nat → Bool → Int → Int → List Int → Int → Int → Option ((List (S48)))
 | 0, _, _, _, _, _, _ => none
 | k + 1, x21, x289000, x289001, x289002, x289003, x289004 => if x21 = true then (some (([(⟨(⟨x289000, x289001, x289002⟩ : S24), x289003, x289004⟩ : S48)] : List (S48)))) else (shape_tiles.l0 k ([] : List (S48)) 0 x289000 x289001 x289002 x289003 x289004)
def shape_tiles.l0 : Nat → List (S48) → Int → Int → Int → List Int → Int → Int → Option ((List (S48)))
 | 0, _, _, _, _, _, _, _ => none
 | k + 1, x3, x4, x289000, x289001, x289002, x289003, x289004 => if x4 < x289001 then (shape_tiles.l1 k x3 x4 0 x289000 x289001 x289002 x289003 x289004) else (some x3)
def shape_tiles.l1 : Nat → List (S48) → Int → Int → Int → Int → List Int → Int → Int → Option ((List (S48)))
 | 0, _, _, _, _, _, _, _, _ => none
 | k + 1, x3, x4, x5, x289000, x289001, x289002, x289003, x289004 => if x5 < x289000 then ((bitmap_Cut.f k x289000 x289001 x289002 x5 x4 (mn 40 (wrap64 (x289000 - x5))) (mn 40 (wrap64 (x289001 - x4)))).bind fun bt292 => ((bitmap_Trim.f k bt292.1 bt292.2.1 bt292.2.2.1).bind fun bt299 => (if bt299.1 > 0 then (if x3.length < 2513169434916 then (shape_tiles.l1 k (x3 ++ [(⟨(⟨bt299.1, bt299.2.1, bt299.2.2.1⟩ : S24), wrap64 ((wrap64 (x289003 + x5)) + bt299.2.2.2.1), wrap64 ((wrap64 (x289004 + x4)) + bt299.2.2.2.2.1)⟩ : S48)]) x4 (wrap64 (x5 + 40)) x289000 x289001 x289002 x289003 x289004) else (none)) else (shape_tiles.l1 k x3 x4 (wrap64 (x5 + 40)) x289000 x289001 x289002 x289003 x289004)))) else (shape_tiles.l0 k x3 (wrap64 (x4 + 40)) x289000 x289001 x289002 x289003 x289004)
end
def shape_tiles.f (k : Nat) (a0_0 : Int) (a0_1 : Int) (l0_2 : List Int) (a0_3 : Int) (a0_4 : Int) : Option ((List (S48))) := if a0_0 ≤ 40 then (shape_tiles.j0 k (decide (a0_1 ≤ 40)) a0_0 a0_1 l0_2 a0_3 a0_4) else (shape_tiles.j0 k false a0_0 a0_1 l0_2 a0_3 a0_4)
theorem shape_tiles.mono_l : ∀ k, (∀ y0 y1 y2 y3 y4 y5, LeO (shape_tiles.j0 k y0 y1 y2 y3 y4 y5) (shape_tiles.j0 (k + 1) y0 y1 y2 y3 y4 y5)) ∧ (∀ y0 y1 y2 y3 y4 y5 y6, LeO (shape_tiles.l0 k y0 y1 y2 y3 y4 y5 y6) (shape_tiles.l0 (k + 1) y0 y1 y2 y3 y4 y5 y6)) ∧ (∀ y0 y1 y2 y3 y4 y5 y6 y7, LeO (shape_tiles.l1 k y0 y1 y2 y3 y4 y5 y6 y7) (shape_tiles.l1 (k + 1) y0 y1 y2 y3 y4 y5 y6 y7))
 | 0 => ⟨fun _ _ _ _ _ _ r h => by simp [shape_tiles.j0] at h, fun _ _ _ _ _ _ _ r h => by simp [shape_tiles.l0] at h, fun _ _ _ _ _ _ _ _ r h => by simp [shape_tiles.l1] at h⟩
 | k + 1 => by
  obtain ⟨ih0, ih1, ih2⟩ := shape_tiles.mono_l k
  refine ⟨?_, ?_, ?_⟩
  ·intro y0 y1 y2 y3 y4 y5
   unfold shape_tiles.j0
   repeat' first
   | (with_reducible exact ih0 _ _ _ _ _ _)
   | (with_reducible exact ih1 _ _ _ _ _ _ _)
   | (with_reducible exact ih2 _ _ _ _ _ _ _ _)
   | (with_reducible exact bitmap_Cut.mono _ _ _ _ _ _ _ _)
   | (with_reducible exact bitmap_Trim.mono _ _ _ _)
   | (with_reducible first | exact LeO.refl _ | exact LeO.none _ | refine LeO.ite ?_ ?_ | refine LeO.bind ?_ (fun _ => ?_))
   | exact ih0 _ _ _ _ _ _
   | exact ih1 _ _ _ _ _ _ _
   | exact ih2 _ _ _ _ _ _ _ _
   | exact bitmap_Cut.mono _ _ _ _ _ _ _ _
   | exact bitmap_Trim.mono _ _ _ _
   | exact LeO.none _ | refine LeO.ite ?_ ?_ | refine LeO.bind ?_ (fun _ => ?_)
  ·intro y0 y1 y2 y3 y4 y5 y6
   unfold shape_tiles.l0
   repeat' first
   | (with_reducible exact ih0 _ _ _ _ _ _)
   | (with_reducible exact ih1 _ _ _ _ _ _ _)
   | (with_reducible exact ih2 _ _ _ _ _ _ _ _)
   | (with_reducible exact bitmap_Cut.mono _ _ _ _ _ _ _ _)
   | (with_reducible exact bitmap_Trim.mono _ _ _ _)
   | (with_reducible first | exact LeO.refl _ | exact LeO.none _ | refine LeO.ite ?_ ?_ | refine LeO.bind ?_ (fun _ => ?_))
   | exact ih0 _ _ _ _ _ _
   | exact ih1 _ _ _ _ _ _ _
   | exact ih2 _ _ _ _ _ _ _ _
   | exact bitmap_Cut.mono _ _ _ _ _ _ _ _
   | exact bitmap_Trim.mono _ _ _ _
   | exact LeO.none _ | refine LeO.ite ?_ ?_ | refine LeO.bind ?_ (fun _ => ?_)
  ·intro y0 y1 y2 y3 y4 y5 y6 y7
   unfold shape_tiles.l1
   repeat' first
   | (with_reducible exact ih0 _ _ _ _ _ _)
   | (with_reducible exact ih1 _ _ _ _ _ _ _)
   | (with_reducible exact ih2 _ _ _ _ _ _ _ _)
   | (with_reducible exact bitmap_Cut.mono _ _ _ _ _ _ _ _)
   | (with_reducible exact bitmap_Trim.mono _ _ _ _)
   | (with_reducible first | exact LeO.refl _ | exact LeO.none _ | refine LeO.ite ?_ ?_ | refine LeO.bind ?_ (fun _ => ?_))
   | exact ih0 _ _ _ _ _ _
   | exact ih1 _ _ _ _ _ _ _
   | exact ih2 _ _ _ _ _ _ _ _
   | exact bitmap_Cut.mono _ _ _ _ _ _ _ _
   | exact bitmap_Trim.mono _ _ _ _
   | exact LeO.none _ | refine LeO.ite ?_ ?_ | refine LeO.bind ?_ (fun _ => ?_)
theorem shape_tiles.mono : ∀ a0 a1 a2 a3 a4 k, LeO (shape_tiles.f k a0 a1 a2 a3 a4) (shape_tiles.f (k + 1) a0 a1 a2 a3 a4) := by
 intro a0 a1 a2 a3 a4 k
 obtain ⟨ih0, ih1, ih2⟩ := shape_tiles.mono_l k
 unfold shape_tiles.f
 repeat' first
   | (with_reducible exact ih0 _ _ _ _ _ _)
   | (with_reducible exact ih1 _ _ _ _ _ _ _)
   | (with_reducible exact ih2 _ _ _ _ _ _ _ _)
   | (with_reducible exact bitmap_Cut.mono _ _ _ _ _ _ _ _)
   | (with_reducible exact bitmap_Trim.mono _ _ _ _)
   | (with_reducible first | exact LeO.refl _ | exact LeO.none _ | refine LeO.ite ?_ ?_ | refine LeO.bind ?_ (fun _ => ?_))
   | exact ih0 _ _ _ _ _ _
   | exact ih1 _ _ _ _ _ _ _
   | exact ih2 _ _ _ _ _ _ _ _
   | exact bitmap_Cut.mono _ _ _ _ _ _ _ _
   | exact bitmap_Trim.mono _ _ _ _
   | exact LeO.none _ | refine LeO.ite ?_ ?_ | refine LeO.bind ?_ (fun _ => ?_)
set_option maxHeartbeats 8000000 in
set_option maxRecDepth 100000 in
theorem shape_tiles.calls (k : Nat) (a0_0 : Int) (a0_1 : Int) (P0_2_ : Nat → Prop) (A0_2 : Option Addr) (c0_2 : Nat) (l0_2 : List Int) (a0_3 : Int) (a0_4 : Int) (r : List (S48)) (w : World) (hs0_2 : Kd.V (Kd.int .u8) 5 w w.heap.size (fun k_ => P0_2_ k_) (.slice A0_2 l0_2.length c0_2) l0_2) (h : shape_tiles.f k a0_0 a0_1 l0_2 a0_3 a0_4 = some r) :
  Calls Try.prog 64 #[.agg #[.int .i64 a0_0, .int .i64 a0_1, .slice A0_2 l0_2.length c0_2, .int .i64 a0_3, .int .i64 a0_4]] w fun e w' => ∃ v0_ : Value, e = .returned (v0_) ∧ Kd.N k48 48 w' w.heap.size (fun k_ => (P0_2_ k_ ∨ w.heap.size ≤ k_)) v0_ r ∧ Below w.heap.size w w' := by
 have hu48 := Try.underlying48
 have hu24 := Try.underlying24
 have HO0_2 := Aside0.mk (show Kd.V (Kd.int .u8) 5 w w.heap.size (fun k_ => (P0_2_ k_ ∨ w.heap.size ≤ k_)) (.slice A0_2 l0_2.length c0_2) l0_2 from Kd.V_mono hs0_2 (fun k_ hk => .inl hk))
 have HB := Aside0.mk (Below.refl w.heap.size w)
 have H : (if a0_0 ≤ 40 then (shape_tiles.j0 k (decide (a0_1 ≤ 40)) a0_0 a0_1 l0_2 a0_3 a0_4) else (shape_tiles.j0 k false a0_0 a0_1 l0_2 a0_3 a0_4)) = some r := h
 clear h
 have HC2 := Aside0.mk H
 clear H
 go_enter Try.func64, Try.ntmps64
 go_upto_region 1 with (first | ((with_reducible refine gd 1 rfl ?_); refine bx 1 #[.int .i64 a0_0, .int .i64 a0_1, .slice A0_2 l0_2.length c0_2, .int .i64 a0_3, .int .i64 a0_4] 48 rfl rfl ?_; intro gb288 hg w3 hbox hb; have n_ := aC (Kd.V_below (Kd.V_elderB (by (with_reducible repeat (first | apply Kd.V_alloc | apply Kd.V_drewN | apply Kd.V_drew)); exact HO0_2.out) gb288 (Nat.le_of_eq hg.symm)) hb) (aC (bs hb) (aC hbox (aC (gz hg) (aE (gz hg))))); clear HO0_2 HB; obtain ⟨HO0_2, HB, BK288, GW288, GE288⟩ := n_; clear hb hbox hg))
 (try simp only [Act.put, List.setIfInBounds_toArray, List.set_cons_zero, List.set_cons_succ])
 go_cut [21] (fun v21 wc => ∃ (kq : Nat) (x21_1 : Bool), v21 = .bool x21_1 ∧ Aside0 (shape_tiles.j0 kq x21_1 a0_0 a0_1 l0_2 a0_3 a0_4 = some r) ∧ Aside0 (kq ≤ k) ∧ Aside0 (Kd.V (Kd.int .u8) 5 wc w.heap.size (fun k_ => (P0_2_ k_ ∨ w.heap.size ≤ k_) ∧ k_ ≠ gb288) (.slice A0_2 l0_2.length c0_2) l0_2) ∧ Aside0 (wc.heap[gb288]? = some (.cells #[.int .i64 a0_0, .int .i64 a0_1, (.slice A0_2 l0_2.length c0_2), .int .i64 a0_3, .int .i64 a0_4] 48 (0, 0))) ∧ Aside0 (Below w.heap.size w wc))
 case first =>
  have H := HC2.out
  clear HC2
  by_cases c4 : a0_0 ≤ 40
  ·rw [if_pos c4] at H
   have c4b0 := decide_eq_true c4
   clear c4
   (first | rw [c4b0] | (simp only [i64_w, i32_w]; rw [c4b0]) | skip)
   have H' := Aside0.mk H
   clear H
   obtain ⟨hcz5_0, hcz5_1, hcz5_2, hcz5_3, hcz5_4, hfz5_0, hfz5_1, hfz5_2, hfz5_3, hfz5_4⟩ := cz5f BK288.out
   go_wp2
   go_meet
   case rel => exact ⟨_, (decide (a0_1 ≤ 40)), rq, H', ⟨by first | omega | exact Nat.le_refl _⟩, ⟨by (with_reducible repeat (first | apply Kd.V_alloc | apply Kd.V_drewN | apply Kd.V_drew)); exact HO0_2.out⟩, ⟨bU BK288.out⟩, ⟨bl⟩⟩
  ·rw [if_neg c4] at H
   have c4b0 := decide_eq_false c4
   clear c4
   (first | rw [c4b0] | (simp only [i64_w, i32_w]; rw [c4b0]) | skip)
   have H' := Aside0.mk H
   clear H
   obtain ⟨hcz6_0, hcz6_1, hcz6_2, hcz6_3, hcz6_4, hfz6_0, hfz6_1, hfz6_2, hfz6_3, hfz6_4⟩ := cz5f BK288.out
   go_wp2
   go_meet
   case rel => exact ⟨_, (false), rq, H', ⟨by first | omega | exact Nat.le_refl _⟩, ⟨by (with_reducible repeat (first | apply Kd.V_alloc | apply Kd.V_drewN | apply Kd.V_drew)); exact HO0_2.out⟩, ⟨bU BK288.out⟩, ⟨bl⟩⟩
 case rest =>
  clear HC2
  obtain ⟨kq, x21_1, rfl, HA, HJ1, HO_289002, BK288, HB⟩ := hcut
  cases kq with
  | zero => exact absurd HA.out (by simp [shape_tiles.j0])
  | succ kj1 =>
   have H := HA.out
   clear HA
   simp only [shape_tiles.j0] at H
   by_cases c7 : x21_1 = true
   ·subst c7
    have H1 : (some (([(⟨(⟨a0_0, a0_1, l0_2⟩ : S24), a0_3, a0_4⟩ : S48)] : List (S48)))) = some r := by rw [if_pos rfl] at H; exact H
    clear H
    have H := H1
    clear H1
    obtain ⟨y289, hy_⟩ : ∃ y_ : List (S48), y_ = (([(⟨(⟨a0_0, a0_1, l0_2⟩ : S24), a0_3, a0_4⟩ : S48)] : List (S48))) := ⟨_, rfl⟩
    replace H : (some y289) = some r := rh
    have Ny289 := aE hy_
    clear hy_
    obtain rfl := Option.some.inj H
    obtain ⟨hcz8_0, hcz8_1, hcz8_2, hcz8_3, hcz8_4, hfz8_0, hfz8_1, hfz8_2, hfz8_3, hfz8_4⟩ := cz5f BK288.out
    go_wp2_with (first | ((with_reducible refine gd 23 rfl ?_); refine Kd.N_lit k48 _ 48 ?hg (N' := 23) ?hd (xs := ([(⟨(⟨a0_0, a0_1, l0_2⟩ : S24), a0_3, a0_4⟩ : S48)] : List (S48))) (inner := [.int .i64 a0_0, .int .i64 a0_1, .slice A0_2 l0_2.length c0_2, .int .i64 a0_3, .int .i64 a0_4]) (ok := (fun k_ => (P0_2_ k_ ∨ w.heap.size ≤ k_) ∧ k_ ≠ gb288)) (okp := (fun k_ => (P0_2_ k_ ∨ w.heap.size ≤ k_) ∧ k_ ≠ gb288)) ?hr ?hp (fun _ hk => hk) ((show ∀ k_, wc.heap.size ≤ k_ → (fun k_ => (P0_2_ k_ ∨ w.heap.size ≤ k_) ∧ k_ ≠ gb288) k_ from fun k_ hk => ⟨(.inr (Nat.le_trans bz hk)), Kd.freshB (bU BK288.out) k_ hk⟩) _ (Nat.le_refl _)) (Below.refl _ _) (Nat.le_refl _) (by simp) ?_; (case hd => rfl); (case hg => rfl); (case hr => first | (go_simp; done) | (go_simp; rfl)); (case hp => exact (Reps.c5 (show Kd.FK k48 _ _ (⟨(⟨a0_0, a0_1, l0_2⟩ : S24), a0_3, a0_4⟩ : S48) [.int .i64 a0_0, .int .i64 a0_1, .slice A0_2 l0_2.length c0_2, .int .i64 a0_3, .int .i64 a0_4] from (k48_mkF _ _ (⟨(⟨a0_0, a0_1, l0_2⟩ : S24), a0_3, a0_4⟩ : S48) (Kd.V_reads' (Kd.V_mono (ok' := (fun k_ => (P0_2_ k_ ∨ w.heap.size ≤ k_) ∧ k_ ≠ gb288)) (HO_289002.out) (fun k_ hk => ⟨hk.1, hk.2⟩))).2.1 (Kd.V_F (Kd.V_mono (ok' := (fun k_ => (P0_2_ k_ ∨ w.heap.size ≤ k_) ∧ k_ ≠ gb288)) (HO_289002.out) (fun k_ hk => ⟨hk.1, hk.2⟩))))) (Reps.none _ _))); intro v290 w9 ho10 hb hg_ hnew_; clear hg_ hnew_; (first | rw [← Ny289.out] at ho10 | (simp only [Int.reduceToNat] at ho10; rw [← Ny289.out] at ho10)); have n_ := aC (Kd.V_elder' (by (with_reducible repeat (first | apply Kd.V_alloc | apply Kd.V_drewN | apply Kd.V_drew)); exact HO_289002.out) (Kd.N_base ho10) hb) (aC (Kd.N_lower ho10 bz) (aC (blk_below (bU BK288.out) hb) (aE (bs hb)))); clear HO_289002 BK288 HB; obtain ⟨HO_289002, HO291, BK288, HB⟩ := n_; clear hb ho10))
    go_ret
    exact ⟨_, re, by (with_reducible repeat (first | apply Kd.N_alloc | apply Kd.N_drewN | apply Kd.N_drew)); exact Kd.N_mono HO291.out (fun _ hk => hk.1), bl⟩
   ·replace c7 := Bool.eq_false_iff.mpr c7
    subst c7
    have H1 : (shape_tiles.l0 kj1 ([] : List (S48)) 0 a0_0 a0_1 l0_2 a0_3 a0_4) = some r := by rw [if_neg (show ¬ (false = true) by decide)] at H; exact H
    clear H
    have H := H1
    clear H1
    have H' := Aside0.mk H
    clear H
    go_wp2
    go_loopg [3, 4] kj1 (fun kq v3 v4 w' => ∃ (x3_2 : List (S48)) (x4_2 : Int), v4 = .int .i64 x4_2 ∧ Aside0 (shape_tiles.l0 kq x3_2 x4_2 a0_0 a0_1 l0_2 a0_3 a0_4 = some r) ∧ Aside0 (kq ≤ kj1) ∧ Aside0 (Kd.N k48 48 w' w.heap.size (fun k_ => (P0_2_ k_ ∨ w.heap.size ≤ k_) ∧ k_ ≠ gb288) v3 x3_2) ∧ Aside0 (Kd.V (Kd.int .u8) 5 w' w.heap.size (fun k_ => (P0_2_ k_ ∨ w.heap.size ≤ k_) ∧ some k_ ≠ (v3 : Value).ownBlock ∧ k_ ≠ gb288) (.slice A0_2 l0_2.length c0_2) l0_2) ∧ Aside0 (w'.heap[gb288]? = some (.cells #[.int .i64 a0_0, .int .i64 a0_1, (.slice A0_2 l0_2.length c0_2), .int .i64 a0_3, .int .i64 a0_4] 48 (0, 0))) ∧ Aside0 (Below w.heap.size w w'))
    case atStart => exact ⟨(([] : List (S48))), (0), rq, H', ⟨Nat.le_refl _⟩, ⟨by first | exact Kd.S_nil _ _ _ _ _ | exact Kd.N_nil _ _ _ _ _ | exact Kd.V_nil _ _ _ _ _ | exact Kd.Q_nil _ _ _ _ _ | exact Kd.R_nil _ _ _ _ _⟩, ⟨by (with_reducible repeat (first | apply Kd.V_alloc | apply Kd.V_drewN | apply Kd.V_drew)); exact Kd.V_mono HO_289002.out (fun _ hk => ⟨hk.1, ⟨(by simp [Value.ownBlock]), hk.2⟩⟩)⟩, ⟨bU BK288.out⟩, ⟨bl⟩⟩
    case round =>
     clear H'
     obtain ⟨x3_2, x4_2, rfl, HA, HK2, HO_3, HO_289002, BK288, HB⟩ := hrel
     cases gk with
     | zero => exact absurd HA.out (by simp [shape_tiles.l0])
     | succ k2 =>
      have H := HA.out
      clear HA
      simp only [shape_tiles.l0] at H
      by_cases c11 : x4_2 < a0_1
      ·rw [if_pos c11] at H
       have c11b0 := decide_eq_true c11
       clear c11
       have H' := Aside0.mk H
       clear H
       obtain ⟨hcz12_0, hcz12_1, hcz12_2, hcz12_3, hcz12_4, hfz12_0, hfz12_1, hfz12_2, hfz12_3, hfz12_4⟩ := cz5f BK288.out
       go_wp2
       go_loopg [3, 5] k2 (fun kq v3 v5 w' => ∃ (x3_3 : List (S48)) (x5_3 : Int), v5 = .int .i64 x5_3 ∧ Aside0 (shape_tiles.l1 kq x3_3 x4_2 x5_3 a0_0 a0_1 l0_2 a0_3 a0_4 = some r) ∧ Aside0 (kq ≤ k2) ∧ Aside0 (Kd.N k48 48 w' w.heap.size (fun k_ => (P0_2_ k_ ∨ w.heap.size ≤ k_) ∧ k_ ≠ gb288) v3 x3_3) ∧ Aside0 (Kd.V (Kd.int .u8) 5 w' w.heap.size (fun k_ => (P0_2_ k_ ∨ w.heap.size ≤ k_) ∧ some k_ ≠ (v3 : Value).ownBlock ∧ k_ ≠ gb288) (.slice A0_2 l0_2.length c0_2) l0_2) ∧ Aside0 (w'.heap[gb288]? = some (.cells #[.int .i64 a0_0, .int .i64 a0_1, (.slice A0_2 l0_2.length c0_2), .int .i64 a0_3, .int .i64 a0_4] 48 (0, 0))) ∧ Aside0 (Below w.heap.size w w'))
       case atStart => exact ⟨(x3_2), (0), rq, H', ⟨Nat.le_refl _⟩, ⟨by (with_reducible repeat (first | apply Kd.N_alloc | apply Kd.N_drewN | apply Kd.N_drew)); exact HO_3.out⟩, ⟨by (with_reducible repeat (first | apply Kd.V_alloc | apply Kd.V_drewN | apply Kd.V_drew)); exact HO_289002.out⟩, ⟨bU BK288.out⟩, ⟨bl⟩⟩
       case round =>
        clear H'
        obtain ⟨x3_3, x5_3, rfl, HA, HK3, HO_3, HO_289002, BK288, HB⟩ := hrel
        cases gk with
        | zero => exact absurd HA.out (by simp [shape_tiles.l1])
        | succ k3 =>
         have H := HA.out
         clear HA
         simp only [shape_tiles.l1] at H
         by_cases c13 : x5_3 < a0_0
         ·rw [if_pos c13] at H
          have c13b0 := decide_eq_true c13
          clear c13
          obtain ⟨ji14, hji14⟩ : ∃ j_ : Int, (mn 40 (wrap64 (a0_0 - x5_3))) = j_ := ⟨_, rfl⟩
          replace H : ((bitmap_Cut.f k3 a0_0 a0_1 l0_2 x5_3 x4_2 (ji14) (mn 40 (wrap64 (a0_1 - x4_2)))).bind fun bt292 => ((bitmap_Trim.f k3 bt292.1 bt292.2.1 bt292.2.2.1).bind fun bt299 => (if bt299.1 > 0 then (if x3_3.length < 2513169434916 then (shape_tiles.l1 k3 (x3_3 ++ [(⟨(⟨bt299.1, bt299.2.1, bt299.2.2.1⟩ : S24), wrap64 ((wrap64 (a0_3 + x5_3)) + bt299.2.2.2.1), wrap64 ((wrap64 (a0_4 + x4_2)) + bt299.2.2.2.2.1)⟩ : S48)]) x4_2 (wrap64 (x5_3 + 40)) a0_0 a0_1 l0_2 a0_3 a0_4) else (none)) else (shape_tiles.l1 k3 x3_3 x4_2 (wrap64 (x5_3 + 40)) a0_0 a0_1 l0_2 a0_3 a0_4)))) = some r := by first | (rw [hji14] at H; exact H) | (simp only [hji14] at H ⊢; exact H)
          have hji14_ : (if (wrap64 (a0_0 - x5_3)) < 40 then (wrap64 (a0_0 - x5_3)) else 40) = ji14 := hji14
          obtain ⟨ji15, hji15⟩ : ∃ j_ : Int, (mn 40 (wrap64 (a0_1 - x4_2))) = j_ := ⟨_, rfl⟩
          replace H : ((bitmap_Cut.f k3 a0_0 a0_1 l0_2 x5_3 x4_2 (ji14) (ji15)).bind fun bt292 => ((bitmap_Trim.f k3 bt292.1 bt292.2.1 bt292.2.2.1).bind fun bt299 => (if bt299.1 > 0 then (if x3_3.length < 2513169434916 then (shape_tiles.l1 k3 (x3_3 ++ [(⟨(⟨bt299.1, bt299.2.1, bt299.2.2.1⟩ : S24), wrap64 ((wrap64 (a0_3 + x5_3)) + bt299.2.2.2.1), wrap64 ((wrap64 (a0_4 + x4_2)) + bt299.2.2.2.2.1)⟩ : S48)]) x4_2 (wrap64 (x5_3 + 40)) a0_0 a0_1 l0_2 a0_3 a0_4) else (none)) else (shape_tiles.l1 k3 x3_3 x4_2 (wrap64 (x5_3 + 40)) a0_0 a0_1 l0_2 a0_3 a0_4)))) = some r := by first | (rw [hji15] at H; exact H) | (simp only [hji15] at H ⊢; exact H)
          have hji15_ : (if (wrap64 (a0_1 - x4_2)) < 40 then (wrap64 (a0_1 - x4_2)) else 40) = ji15 := hji15
          replace H := Option.bind_eq_some_iff.mp H
          obtain ⟨⟨t292, t293, t294, t297⟩, A160, H⟩ := H
          replace H : ((bitmap_Trim.f k3 t292 t293 t294).bind fun bt299 => (if bt299.1 > 0 then (if x3_3.length < 2513169434916 then (shape_tiles.l1 k3 (x3_3 ++ [(⟨(⟨bt299.1, bt299.2.1, bt299.2.2.1⟩ : S24), wrap64 ((wrap64 (a0_3 + x5_3)) + bt299.2.2.2.1), wrap64 ((wrap64 (a0_4 + x4_2)) + bt299.2.2.2.2.1)⟩ : S48)]) x4_2 (wrap64 (x5_3 + 40)) a0_0 a0_1 l0_2 a0_3 a0_4) else (none)) else (shape_tiles.l1 k3 x3_3 x4_2 (wrap64 (x5_3 + 40)) a0_0 a0_1 l0_2 a0_3 a0_4))) = some r := H
          have A16 := Aside0.mk A160
          clear A160
          replace H := Option.bind_eq_some_iff.mp H
          obtain ⟨⟨t299, t300, t301, t304, t305, t306⟩, A170, H⟩ := H
          replace H : (if t299 > 0 then (if x3_3.length < 2513169434916 then (shape_tiles.l1 k3 (x3_3 ++ [(⟨(⟨t299, t300, t301⟩ : S24), wrap64 ((wrap64 (a0_3 + x5_3)) + t304), wrap64 ((wrap64 (a0_4 + x4_2)) + t305)⟩ : S48)]) x4_2 (wrap64 (x5_3 + 40)) a0_0 a0_1 l0_2 a0_3 a0_4) else (none)) else (shape_tiles.l1 k3 x3_3 x4_2 (wrap64 (x5_3 + 40)) a0_0 a0_1 l0_2 a0_3 a0_4)) = some r := H
          have A17 := Aside0.mk A170
          clear A170
          by_cases c18 : t299 > 0
          ·rw [if_pos c18] at H
           have c18b0 := decide_eq_true c18
           clear c18
           by_cases c19 : x3_3.length < 2513169434916
           ·rw [if_pos c19] at H
            have LMc19 := Aside0.mk c19
            clear c19
            obtain ⟨y308, hy_⟩ : ∃ y_ : List (S48), y_ = (x3_3 ++ [(⟨(⟨t299, t300, t301⟩ : S24), wrap64 ((wrap64 (a0_3 + x5_3)) + t304), wrap64 ((wrap64 (a0_4 + x4_2)) + t305)⟩ : S48)]) := ⟨_, rfl⟩
            replace H : (shape_tiles.l1 k3 y308 x4_2 (wrap64 (x5_3 + 40)) a0_0 a0_1 l0_2 a0_3 a0_4) = some r := rh
            have Ny308 := aE hy_
            clear hy_
            have H' := Aside0.mk H
            clear H
            obtain ⟨hcz20_0, hcz20_1, hcz20_2, hcz20_3, hcz20_4, hfz20_0, hfz20_1, hfz20_2, hfz20_3, hfz20_4⟩ := cz5f BK288.out
            go_wp2_with (first | ((with_reducible refine gf 91 rfl ?_); refine goesL_ (some 55) rfl rfl Try.func91 (by kernel_rfl) rfl #[.agg #[.int .i64 a0_0, .int .i64 a0_1, .slice A0_2 l0_2.length c0_2], .int .i64 x5_3, .int .i64 x4_2, .int .i64 ji14, .int .i64 ji15] rfl (by (try simp only [List.map_toArray, List.map_cons, List.map_nil]); first | done | (simp only [hji14, hji15]; rfl) | rfl | (simp only [List.length_drop, List.length_take]; rfl)) ?_; (with_reducible refine (bitmap_Cut.calls k3 a0_0 a0_1 _ _ l0_2 x5_3 x4_2 ji14 ji15 t292 t293 t294 t297 _ ?side1 ?side2 A16.out).mono ?_); (case side1 => exact cU (Kd.V_reads' HO_289002.out).2.2); (case side2 => exact (Kd.V_reads' HO_289002.out).2.1); rintro e w21 ⟨v295, rfl, ho0, hb⟩; refine ⟨_, rfl, ?_⟩; have n_ := aC (Kd.N_elder' (by (with_reducible repeat (first | apply Kd.N_alloc | apply Kd.N_drewN | apply Kd.N_drew)); exact HO_3.out) (Kd.R_base ho0) hb) (aC (Kd.V_elder' (by (with_reducible repeat (first | apply Kd.V_alloc | apply Kd.V_drewN | apply Kd.V_drew)); exact HO_289002.out) (Kd.R_base ho0) hb) (aC (Kd.R_lower (Kd.R_newM (M := fun k_ => (w.heap.size ≤ k_)) ho0 bz (fun k_ h_ => h_)) bz) (aC (blk_below (bU BK288.out) hb) (aE (bs hb))))); clear HO_3 HO_289002 BK288 HB; obtain ⟨HO_3, HO_289002, HO296, BK288, HB⟩ := n_; (try clear hb); (try clear ho0)) | ((with_reducible refine gd 6 rfl ?_); refine bx 6 #[.int .i64 0, .int .i64 0, .slice none 0 0] 24 rfl rfl ?_; intro gb298 hg w22 hbox hb; have n_ := aC (Kd.N_below (Kd.N_elderB (by (with_reducible repeat (first | apply Kd.N_alloc | apply Kd.N_drewN | apply Kd.N_drew)); exact HO_3.out) gb298 (Nat.le_of_eq hg.symm)) hb) (aC (Kd.V_below (Kd.V_elderB (by (with_reducible repeat (first | apply Kd.V_alloc | apply Kd.V_drewN | apply Kd.V_drew)); exact HO_289002.out) gb298 (Nat.le_of_eq hg.symm)) hb) (aC (Kd.R_below (rU HO296.out) hb) (aC (blk_below (bU BK288.out) hb) (aC (bs hb) (aC hbox (aC (gz hg) (aC (gz hg) (aC (gn hg (bU BK288.out)) (aE (gm hg (bU BK288.out))))))))))); clear HO_3 HO_289002 HO296 BK288 HB; obtain ⟨HO_3, HO_289002, HO296, BK288, HB, BK298, GW298, GE298, NB288_298, NB298_288⟩ := n_; clear hb hbox hg; have hnb23 := NB298_288.out; have hnc23 := NB288_298.out; obtain ⟨hcz24_0, hcz24_1, hcz24_2, hfz24_0, hfz24_1, hfz24_2⟩ := cz3f BK298.out; obtain ⟨Ao25, co25, eo25⟩ := Kd.R_slice HO296.out; subst eo25) | ((with_reducible refine gf 92 rfl ?_); refine gL (some 60) rfl rfl Try.func92 rfl #[.agg #[.int .i64 t292, .int .i64 t293, .slice Ao25 t294.length co25]] rfl ?_; (with_reducible refine (bitmap_Trim.calls k3 t292 t293 _ _ t294 t299 t300 t301 t304 t305 t306 _ ?side1 ?side2 A17.out).mono ?_); (case side1 => refine (Kd.R_reads' (e := 5) (base := w.heap.size) (ok := fun k_ => ((w.heap.size ≤ k_) ∧ True)) (n := t294.length) (c := co25) ?_).2.2; exact (rU (Kd.R_mono (Kd.R_far (p := ⟨gb298, 2, none⟩) (Kd.R_far (p := ⟨gb298, 1, none⟩) (Kd.R_far (p := ⟨gb298, 0, none⟩) (Kd.R_types HO296.out BK298.out (by decide)) (fun _ hk => hk.2) (.int .i64 t292)) (fun _ hk => hk.2) (.int .i64 t293)) (fun _ hk => hk.2) (.slice Ao25 t294.length co25)) (fun _ h_ => h_.1)))); (case side2 => exact (Kd.R_reads' HO296.out).2.1); rintro e w26 ⟨v302, rfl, ho0, hb⟩; refine ⟨_, rfl, ?_⟩; have n_ := aC (Kd.N_elder' (by (with_reducible repeat (first | apply Kd.N_alloc | apply Kd.N_drewN | apply Kd.N_drew)); exact (Kd.N_mono (Kd.N_far (p := ⟨gb298, 2, none⟩) (Kd.N_far (p := ⟨gb298, 1, none⟩) (Kd.N_far (p := ⟨gb298, 0, none⟩) (Kd.N_mono HO_3.out (fun k_ hk => (⟨hk, hk.2⟩ : _ ∧ k_ ≠ gb298))) (fun _ hk => hk.2) (.int .i64 t292)) (fun _ hk => hk.2) (.int .i64 t293)) (fun _ hk => hk.2) (.slice Ao25 t294.length co25)) (fun _ h_ => h_.1))) (Kd.R_base ho0) hb) (aC (Kd.V_elder' (by (with_reducible repeat (first | apply Kd.V_alloc | apply Kd.V_drewN | apply Kd.V_drew)); exact (Kd.V_mono (Kd.V_far (p := ⟨gb298, 2, none⟩) (Kd.V_far (p := ⟨gb298, 1, none⟩) (Kd.V_far (p := ⟨gb298, 0, none⟩) (Kd.V_mono HO_289002.out (fun k_ hk => (⟨hk, hk.2⟩ : _ ∧ k_ ≠ gb298))) (fun _ hk => hk.2) (.int .i64 t292)) (fun _ hk => hk.2) (.int .i64 t293)) (fun _ hk => hk.2) (.slice Ao25 t294.length co25)) (fun _ h_ => h_.1))) (Kd.R_base ho0) hb) (aC (Kd.R_elder' (rU (Kd.R_mono (Kd.R_far (p := ⟨gb298, 2, none⟩) (Kd.R_far (p := ⟨gb298, 1, none⟩) (Kd.R_far (p := ⟨gb298, 0, none⟩) (Kd.R_types HO296.out BK298.out (by decide)) (fun _ hk => hk.2) (.int .i64 t292)) (fun _ hk => hk.2) (.int .i64 t293)) (fun _ hk => hk.2) (.slice Ao25 t294.length co25)) (fun _ h_ => h_.1))) (Kd.R_base ho0) hb) (aC (Kd.R_lower (Kd.R_new' (Kd.R_newM (M := fun k_ => (w.heap.size ≤ k_)) ho0 bz (fun k_ h_ => h_)) (Kd.R_lt (rU (Kd.R_mono (Kd.R_far (p := ⟨gb298, 2, none⟩) (Kd.R_far (p := ⟨gb298, 1, none⟩) (Kd.R_far (p := ⟨gb298, 0, none⟩) (Kd.R_types HO296.out BK298.out (by decide)) (fun _ hk => hk.2) (.int .i64 t292)) (fun _ hk => hk.2) (.int .i64 t293)) (fun _ hk => hk.2) (.slice Ao25 t294.length co25)) (fun _ h_ => h_.1))))) bz) (aC (blk_below (g := gb288) (o := .cells #[.int .i64 a0_0, .int .i64 a0_1, .slice A0_2 l0_2.length c0_2, .int .i64 a0_3, .int .i64 a0_4] 48 (0, 0)) (by (with_reducible repeat (first | refine blk_drewN ?_ _ | refine blk_drew ?_ | refine blk_alloc ?_ _)); refine blk_far ?_ NB288_298.out _; (with_reducible repeat (first | refine blk_drewN ?_ _ | refine blk_drew ?_ | refine blk_alloc ?_ _)); refine blk_far ?_ NB288_298.out _; (with_reducible repeat (first | refine blk_drewN ?_ _ | refine blk_drew ?_ | refine blk_alloc ?_ _)); refine blk_far ?_ NB288_298.out _; (with_reducible repeat (first | refine blk_drewN ?_ _ | refine blk_drew ?_ | refine blk_alloc ?_ _)); exact BK288.out) hb) (aC (blk_below (g := gb298) (o := .cells #[.int .i64 t292, .int .i64 t293, .slice Ao25 t294.length co25] 24 (0, 0)) (by (with_reducible repeat (first | refine blk_drewN ?_ _ | refine blk_drew ?_ | refine blk_alloc ?_ _)); refine blk_put (cs := #[.int .i64 t292, .int .i64 t293, .slice none 0 0]) ?_ 2 _ rfl; (with_reducible repeat (first | refine blk_drewN ?_ _ | refine blk_drew ?_ | refine blk_alloc ?_ _)); refine blk_put (cs := #[.int .i64 t292, .int .i64 0, .slice none 0 0]) ?_ 1 _ rfl; (with_reducible repeat (first | refine blk_drewN ?_ _ | refine blk_drew ?_ | refine blk_alloc ?_ _)); refine blk_put (cs := #[.int .i64 0, .int .i64 0, .slice none 0 0]) ?_ 0 _ rfl; (with_reducible repeat (first | refine blk_drewN ?_ _ | refine blk_drew ?_ | refine blk_alloc ?_ _)); exact BK298.out) hb) (aE (bs hb))))))); clear HO_3 HO_289002 HO296 BK288 BK298 HB; obtain ⟨HO_3, HO_289002, HO296, HO303, BK288, BK298, HB⟩ := n_; (try clear hb); (try clear ho0)) | ((with_reducible refine gd 8 rfl ?_); refine bx 8 #[.int .i64 0, .int .i64 0, .slice none 0 0] 24 rfl rfl ?_; intro gb307 hg w27 hbox hb; have n_ := aC (Kd.N_below (Kd.N_elderB (by (with_reducible repeat (first | apply Kd.N_alloc | apply Kd.N_drewN | apply Kd.N_drew)); exact HO_3.out) gb307 (Nat.le_of_eq hg.symm)) hb) (aC (Kd.V_below (Kd.V_elderB (by (with_reducible repeat (first | apply Kd.V_alloc | apply Kd.V_drewN | apply Kd.V_drew)); exact HO_289002.out) gb307 (Nat.le_of_eq hg.symm)) hb) (aC (Kd.R_below (rU HO296.out) hb) (aC (Kd.R_below (rU HO303.out) hb) (aC (blk_below (bU BK288.out) hb) (aC (blk_below (bU BK298.out) hb) (aC (bs hb) (aC hbox (aC (gz hg) (aC (gz hg) (aC (gn hg (bU BK288.out)) (aC (gm hg (bU BK288.out)) (aC (gn hg (bU BK298.out)) (aE (gm hg (bU BK298.out))))))))))))))); clear HO_3 HO_289002 HO296 HO303 BK288 BK298 HB; obtain ⟨HO_3, HO_289002, HO296, HO303, BK288, BK298, HB, BK307, GW307, GE307, NB288_307, NB307_288, NB298_307, NB307_298⟩ := n_; clear hb hbox hg; have hnb28 := NB307_288.out; have hnc28 := NB288_307.out; have hnb29 := NB307_298.out; have hnc29 := NB298_307.out; obtain ⟨hcz30_0, hcz30_1, hcz30_2, hfz30_0, hfz30_1, hfz30_2⟩ := cz3f BK307.out; obtain ⟨Ao31, co31, eo31⟩ := Kd.R_slice HO303.out; subst eo31) | ((with_reducible refine gate_store (t := 24) (p := 8) rfl ?_); refine store_event (t := 24) (p := 8) (v := ?vo_w32) (w1 := (((w27.setCell ⟨gb307, 0, none⟩ (.int .i64 t299)).setCell ⟨gb307, 1, none⟩ (.int .i64 t300)).setCell ⟨gb307, 2, none⟩ (.slice Ao31 t301.length co31))) ?hg ?ho ?hn ?hr ?_; (case ho => rfl); (case hg => rfl); (case hn => rfl); (case hr => first | (go_simp; done) | (go_simp; rfl)); intro w32 hw; have n_ := aC (show Kd.N k48 48 w32 w.heap.size (fun k_ => (P0_2_ k_ ∨ w.heap.size ≤ k_) ∧ some k_ ≠ (.slice Ao25 t294.length co25 : Value).ownBlock ∧ some k_ ≠ (.slice Ao31 t301.length co31 : Value).ownBlock ∧ k_ ≠ gb288 ∧ k_ ≠ gb298 ∧ k_ ≠ gb307) u3 x3_3 from (by rw [hw]; exact (by (with_reducible repeat (first | apply Kd.N_alloc | apply Kd.N_drewN | apply Kd.N_drew)); exact Kd.N_mono (Kd.N_far (p := ⟨gb307, 2, none⟩) (Kd.N_far (p := ⟨gb307, 1, none⟩) (Kd.N_far (p := ⟨gb307, 0, none⟩) (Kd.N_mono HO_3.out (fun k_ hk => (⟨hk, hk.2⟩ : _ ∧ k_ ≠ gb307))) (fun _ hk => hk.2) (.int .i64 t299)) (fun _ hk => hk.2) (.int .i64 t300)) (fun _ hk => hk.2) (.slice Ao31 t301.length co31)) (fun _ hk => ⟨hk.1.1.1.1.1.1, ⟨hk.1.1.1.1.2, ⟨hk.1.1.2, ⟨hk.1.1.1.1.1.2, ⟨hk.1.1.1.2, hk.1.2⟩⟩⟩⟩⟩)))) (aC (show Kd.V (Kd.int .u8) 5 w32 w.heap.size (fun k_ => (P0_2_ k_ ∨ w.heap.size ≤ k_) ∧ some k_ ≠ (u3 : Value).ownBlock ∧ some k_ ≠ (.slice Ao25 t294.length co25 : Value).ownBlock ∧ some k_ ≠ (.slice Ao31 t301.length co31 : Value).ownBlock ∧ k_ ≠ gb288 ∧ k_ ≠ gb298 ∧ k_ ≠ gb307) (.slice A0_2 l0_2.length c0_2) l0_2 from (by rw [hw]; exact (by (with_reducible repeat (first | apply Kd.V_alloc | apply Kd.V_drewN | apply Kd.V_drew)); exact Kd.V_mono (Kd.V_far (p := ⟨gb307, 2, none⟩) (Kd.V_far (p := ⟨gb307, 1, none⟩) (Kd.V_far (p := ⟨gb307, 0, none⟩) (Kd.V_mono HO_289002.out (fun k_ hk => (⟨hk, hk.2⟩ : _ ∧ k_ ≠ gb307))) (fun _ hk => hk.2) (.int .i64 t299)) (fun _ hk => hk.2) (.int .i64 t300)) (fun _ hk => hk.2) (.slice Ao31 t301.length co31)) (fun _ hk => ⟨hk.1.1.1.1.1.1, ⟨hk.1.1.1.1.1.2.1, ⟨hk.1.1.1.1.2, ⟨hk.1.1.2, ⟨hk.1.1.1.1.1.2.2, ⟨hk.1.1.1.2, hk.1.2⟩⟩⟩⟩⟩⟩)))) (aC (show Kd.R (Kd.int .u8) 5 w32 w.heap.size (fun k_ => (w.heap.size ≤ k_) ∧ some k_ ≠ (.slice Ao31 t301.length co31 : Value).ownBlock) (.slice Ao25 t294.length co25) t294 from (by rw [hw]; exact (rU (Kd.R_mono (Kd.R_far (p := ⟨gb307, 2, none⟩) (Kd.R_far (p := ⟨gb307, 1, none⟩) (Kd.R_far (p := ⟨gb307, 0, none⟩) (Kd.R_types HO296.out BK307.out (by decide)) (fun _ hk => hk.2) (.int .i64 t299)) (fun _ hk => hk.2) (.int .i64 t300)) (fun _ hk => hk.2) (.slice Ao31 t301.length co31)) (fun _ hk => ⟨hk.1.1.1, hk.1.2⟩))))) (aC (show Kd.R (Kd.int .u8) 5 w32 w.heap.size (fun k_ => (w.heap.size ≤ k_) ∧ some k_ ≠ (.slice Ao25 t294.length co25 : Value).ownBlock) (.slice Ao31 t301.length co31) t301 from (by rw [hw]; exact (rU (Kd.R_mono (Kd.R_far (p := ⟨gb307, 2, none⟩) (Kd.R_far (p := ⟨gb307, 1, none⟩) (Kd.R_far (p := ⟨gb307, 0, none⟩) (Kd.R_types HO303.out BK307.out (by decide)) (fun _ hk => hk.2) (.int .i64 t299)) (fun _ hk => hk.2) (.int .i64 t300)) (fun _ hk => hk.2) (.slice Ao31 t301.length co31)) (fun _ hk => ⟨hk.1.1.1, hk.1.2⟩))))) (aC (show w32.heap[gb288]? = some (.cells #[.int .i64 a0_0, .int .i64 a0_1, .slice A0_2 l0_2.length c0_2, .int .i64 a0_3, .int .i64 a0_4] 48 (0, 0)) from (by rw [hw]; exact (by (with_reducible repeat (first | refine blk_drewN ?_ _ | refine blk_drew ?_ | refine blk_alloc ?_ _)); refine blk_far ?_ NB288_307.out _; (with_reducible repeat (first | refine blk_drewN ?_ _ | refine blk_drew ?_ | refine blk_alloc ?_ _)); refine blk_far ?_ NB288_307.out _; (with_reducible repeat (first | refine blk_drewN ?_ _ | refine blk_drew ?_ | refine blk_alloc ?_ _)); refine blk_far ?_ NB288_307.out _; (with_reducible repeat (first | refine blk_drewN ?_ _ | refine blk_drew ?_ | refine blk_alloc ?_ _)); exact BK288.out))) (aC (show w32.heap[gb298]? = some (.cells #[.int .i64 t292, .int .i64 t293, .slice Ao25 t294.length co25] 24 (0, 0)) from (by rw [hw]; exact (by (with_reducible repeat (first | refine blk_drewN ?_ _ | refine blk_drew ?_ | refine blk_alloc ?_ _)); refine blk_far ?_ NB298_307.out _; (with_reducible repeat (first | refine blk_drewN ?_ _ | refine blk_drew ?_ | refine blk_alloc ?_ _)); refine blk_far ?_ NB298_307.out _; (with_reducible repeat (first | refine blk_drewN ?_ _ | refine blk_drew ?_ | refine blk_alloc ?_ _)); refine blk_far ?_ NB298_307.out _; (with_reducible repeat (first | refine blk_drewN ?_ _ | refine blk_drew ?_ | refine blk_alloc ?_ _)); exact BK298.out))) (aC (show w32.heap[gb307]? = some (.cells #[.int .i64 t299, .int .i64 t300, .slice Ao31 t301.length co31] 24 (0, 0)) from (by rw [hw]; exact (by (with_reducible repeat (first | refine blk_drewN ?_ _ | refine blk_drew ?_ | refine blk_alloc ?_ _)); refine blk_put (cs := #[.int .i64 t299, .int .i64 t300, .slice none 0 0]) ?_ 2 _ rfl; (with_reducible repeat (first | refine blk_drewN ?_ _ | refine blk_drew ?_ | refine blk_alloc ?_ _)); refine blk_put (cs := #[.int .i64 t299, .int .i64 0, .slice none 0 0]) ?_ 1 _ rfl; (with_reducible repeat (first | refine blk_drewN ?_ _ | refine blk_drew ?_ | refine blk_alloc ?_ _)); refine blk_put (cs := #[.int .i64 0, .int .i64 0, .slice none 0 0]) ?_ 0 _ rfl; (with_reducible repeat (first | refine blk_drewN ?_ _ | refine blk_drew ?_ | refine blk_alloc ?_ _)); exact BK307.out))) (aE (show Below w.heap.size w w32 from (by rw [hw]; exact bl))))))))); clear hw HO_3 HO_289002 HO296 HO303 BK288 BK298 BK307 HB; obtain ⟨HO_3, HO_289002, HO296, HO303, BK288, BK298, BK307, HB⟩ := n_; obtain ⟨hcz33_0, hcz33_1, hcz33_2, hfz33_0, hfz33_1, hfz33_2⟩ := cz3f BK307.out; obtain ⟨hcz34_0, hcz34_1, hcz34_2, hcz34_3, hcz34_4, hfz34_0, hfz34_1, hfz34_2, hfz34_3, hfz34_4⟩ := cz5f BK288.out) | ((with_reducible refine gate_builtin (b := .append) (xs := #[.tmp 68, .tmp 83]) rfl ?_); at_builtin; refine Kd.N_append k48 (w0 := w) w.heap.size rfl (.tmp 68) (.tmp 83) 40 48 (.agg #[(.int .i64 0), (.int .i64 0), (.slice none 0 0), (.int .i64 0), (.int .i64 0)]) 56 rfl Try.underlying40 info48 rfl (by decide) (by omega) u3 x3_3 (⟨(⟨t299, t300, t301⟩ : S24), wrap64 ((wrap64 (a0_3 + x5_3)) + t304), wrap64 ((wrap64 (a0_4 + x4_2)) + t305)⟩ : S48) [.int .i64 t299, .int .i64 t300, .slice Ao31 t301.length co31, .int .i64 (wrap64 ((wrap64 (a0_3 + x5_3)) + t304)), .int .i64 (wrap64 ((wrap64 (a0_4 + x4_2)) + t305))] (fun k_ => (P0_2_ k_ ∨ w.heap.size ≤ k_) ∧ some k_ ≠ (.slice Ao25 t294.length co25 : Value).ownBlock ∧ k_ ≠ gb288 ∧ k_ ≠ gb298 ∧ k_ ≠ gb307) (fun k_ => ((fun k_ => (P0_2_ k_ ∨ w.heap.size ≤ k_) ∧ some k_ ≠ (.slice Ao25 t294.length co25 : Value).ownBlock ∧ k_ ≠ gb288 ∧ k_ ≠ gb298 ∧ k_ ≠ gb307)) k_ ∧ some k_ ≠ (u3 : Value).ownBlock) rfl rfl ?aP (fun _ hk => hk) ?aF ?aO ?aB ?aS ?aL ?_; (case aP => exact (k48_mkF _ _ (⟨(⟨t299, t300, t301⟩ : S24), wrap64 ((wrap64 (a0_3 + x5_3)) + t304), wrap64 ((wrap64 (a0_4 + x4_2)) + t305)⟩ : S48) (Kd.R_reads' (Kd.R_mono (ok' := (fun k_ => ((fun k_ => (P0_2_ k_ ∨ w.heap.size ≤ k_) ∧ some k_ ≠ (.slice Ao25 t294.length co25 : Value).ownBlock ∧ k_ ≠ gb288 ∧ k_ ≠ gb298 ∧ k_ ≠ gb307)) k_ ∧ some k_ ≠ (u3 : Value).ownBlock)) (Kd.R_types (Kd.R_types (Kd.R_types (Kd.R_apart' (HO303.out) (Kd.N_typed HO_3.out) (by decide)) BK288.out (by decide)) BK298.out (by decide)) BK307.out (by decide)) (fun k_ hk => ⟨⟨(.inr (hk.1.1.1.1.1)), ⟨hk.1.1.1.1.2, ⟨hk.1.1.2, ⟨hk.1.2, hk.2⟩⟩⟩⟩, hk.1.1.1.2⟩))).2.1 (Kd.R_F (Kd.R_mono (ok' := (fun k_ => ((fun k_ => (P0_2_ k_ ∨ w.heap.size ≤ k_) ∧ some k_ ≠ (.slice Ao25 t294.length co25 : Value).ownBlock ∧ k_ ≠ gb288 ∧ k_ ≠ gb298 ∧ k_ ≠ gb307)) k_ ∧ some k_ ≠ (u3 : Value).ownBlock)) (Kd.R_types (Kd.R_types (Kd.R_types (Kd.R_apart' (HO303.out) (Kd.N_typed HO_3.out) (by decide)) BK288.out (by decide)) BK298.out (by decide)) BK307.out (by decide)) (fun k_ hk => ⟨⟨(.inr (hk.1.1.1.1.1)), ⟨hk.1.1.1.1.2, ⟨hk.1.1.2, ⟨hk.1.2, hk.2⟩⟩⟩⟩, hk.1.1.1.2⟩))))); (case aB => exact bl); (case aF => exact (fun k_ hk => ⟨(.inr (Nat.le_trans bz hk)), Kd.fresh' (Kd.R_lt (rU HO296.out)) k_ hk, Kd.freshB (bU BK288.out) k_ hk, Kd.freshB (bU BK298.out) k_ hk, Kd.freshB (bU BK307.out) k_ hk⟩)); (case aO => exact (by (with_reducible repeat (first | apply Kd.N_alloc | apply Kd.N_drewN | apply Kd.N_drew)); exact Kd.N_mono HO_3.out (fun _ hk => ⟨hk.1, ⟨hk.2.1, ⟨hk.2.2.2.1, ⟨hk.2.2.2.2.1, hk.2.2.2.2.2⟩⟩⟩⟩))); (case aS => exact bz); (case aL => have := LMc19.out; omega); intro v309 w35 ho hb hg hat; rw [← Ny308.out] at ho; have n_ := aC (Kd.V_afterv (ok := (fun k_ => (P0_2_ k_ ∨ w.heap.size ≤ k_) ∧ some k_ ≠ (.slice Ao25 t294.length co25 : Value).ownBlock ∧ some k_ ≠ (.slice Ao31 t301.length co31 : Value).ownBlock ∧ k_ ≠ gb288 ∧ k_ ≠ gb298 ∧ k_ ≠ gb307)) (by (with_reducible repeat (first | apply Kd.V_alloc | apply Kd.V_drewN | apply Kd.V_drew)); exact Kd.V_mono HO_289002.out (fun _ hk => ⟨⟨hk.1, ⟨hk.2.2.1, ⟨hk.2.2.2.1, ⟨hk.2.2.2.2.1, ⟨hk.2.2.2.2.2.1, hk.2.2.2.2.2.2⟩⟩⟩⟩⟩, hk.2.1⟩)) hg hat) (aC (blk_grown (bU BK288.out) hg (Kd.N_away HO_3.out (fun _ hk => hk.2.2.2.1))) (aC (Kd.R_over' (rU HO296.out) (Kd.N_typed (by (with_reducible repeat (first | apply Kd.N_alloc | apply Kd.N_drewN | apply Kd.N_drew)); exact HO_3.out)) (by decide) hg) (aC (blk_grown (bU BK298.out) hg (Kd.N_ne HO_3.out BK298.out (by decide))) (aC (blk_grown (bU BK307.out) hg (Kd.N_ne HO_3.out BK307.out (by decide))) (aC hb (aE ho)))))); clear HO_289002 BK288 HO296 BK298 BK307 HB HO_3 HO303; obtain ⟨HO_289002, BK288, HO296, BK298, BK307, HB, HO310⟩ := n_; clear ho hb hg hat))
            go_roundg k3
            case measure => have := HJ1.out; have := HK2.out; have := HK3.out; omega
            case rel => exact ⟨(y308), (wrap64 (x5_3 + 40)), rq, H', ⟨by have := HJ1.out; have := HK2.out; have := HK3.out; omega⟩, ⟨by (with_reducible repeat (first | apply Kd.N_alloc | apply Kd.N_drewN | apply Kd.N_drew)); exact Kd.N_mono HO310.out (fun _ hk => ⟨hk.1, hk.2.2.1⟩)⟩, ⟨by (with_reducible repeat (first | apply Kd.V_alloc | apply Kd.V_drewN | apply Kd.V_drew)); exact Kd.V_mono HO_289002.out (fun _ hk => ⟨hk.1.1, ⟨hk.2, hk.1.2.2.2.1⟩⟩)⟩, ⟨bU BK288.out⟩, ⟨bl⟩⟩
           ·rw [if_neg c19] at H
            exact absurd H (by simp)
          ·rw [if_neg c18] at H
           have c18b0 := decide_eq_false c18
           clear c18
           have H' := Aside0.mk H
           clear H
           obtain ⟨hcz36_0, hcz36_1, hcz36_2, hcz36_3, hcz36_4, hfz36_0, hfz36_1, hfz36_2, hfz36_3, hfz36_4⟩ := cz5f BK288.out
           go_wp2_with (first | ((with_reducible refine gf 91 rfl ?_); refine goesL_ (some 55) rfl rfl Try.func91 (by kernel_rfl) rfl #[.agg #[.int .i64 a0_0, .int .i64 a0_1, .slice A0_2 l0_2.length c0_2], .int .i64 x5_3, .int .i64 x4_2, .int .i64 ji14, .int .i64 ji15] rfl (by (try simp only [List.map_toArray, List.map_cons, List.map_nil]); first | done | (simp only [hji14, hji15]; rfl) | rfl | (simp only [List.length_drop, List.length_take]; rfl)) ?_; (with_reducible refine (bitmap_Cut.calls k3 a0_0 a0_1 _ _ l0_2 x5_3 x4_2 ji14 ji15 t292 t293 t294 t297 _ ?side1 ?side2 A16.out).mono ?_); (case side1 => exact cU (Kd.V_reads' HO_289002.out).2.2); (case side2 => exact (Kd.V_reads' HO_289002.out).2.1); rintro e w37 ⟨v295, rfl, ho0, hb⟩; refine ⟨_, rfl, ?_⟩; have n_ := aC (Kd.N_elder' (by (with_reducible repeat (first | apply Kd.N_alloc | apply Kd.N_drewN | apply Kd.N_drew)); exact HO_3.out) (Kd.R_base ho0) hb) (aC (Kd.V_elder' (by (with_reducible repeat (first | apply Kd.V_alloc | apply Kd.V_drewN | apply Kd.V_drew)); exact HO_289002.out) (Kd.R_base ho0) hb) (aC (Kd.R_lower (Kd.R_newM (M := fun k_ => (w.heap.size ≤ k_)) ho0 bz (fun k_ h_ => h_)) bz) (aC (blk_below (bU BK288.out) hb) (aE (bs hb))))); clear HO_3 HO_289002 BK288 HB; obtain ⟨HO_3, HO_289002, HO296, BK288, HB⟩ := n_; (try clear hb); (try clear ho0)) | ((with_reducible refine gd 6 rfl ?_); refine bx 6 #[.int .i64 0, .int .i64 0, .slice none 0 0] 24 rfl rfl ?_; intro gb298 hg w38 hbox hb; have n_ := aC (Kd.N_below (Kd.N_elderB (by (with_reducible repeat (first | apply Kd.N_alloc | apply Kd.N_drewN | apply Kd.N_drew)); exact HO_3.out) gb298 (Nat.le_of_eq hg.symm)) hb) (aC (Kd.V_below (Kd.V_elderB (by (with_reducible repeat (first | apply Kd.V_alloc | apply Kd.V_drewN | apply Kd.V_drew)); exact HO_289002.out) gb298 (Nat.le_of_eq hg.symm)) hb) (aC (Kd.R_below (rU HO296.out) hb) (aC (blk_below (bU BK288.out) hb) (aC (bs hb) (aC hbox (aC (gz hg) (aC (gz hg) (aC (gn hg (bU BK288.out)) (aE (gm hg (bU BK288.out))))))))))); clear HO_3 HO_289002 HO296 BK288 HB; obtain ⟨HO_3, HO_289002, HO296, BK288, HB, BK298, GW298, GE298, NB288_298, NB298_288⟩ := n_; clear hb hbox hg; have hnb39 := NB298_288.out; have hnc39 := NB288_298.out; obtain ⟨hcz40_0, hcz40_1, hcz40_2, hfz40_0, hfz40_1, hfz40_2⟩ := cz3f BK298.out; obtain ⟨Ao41, co41, eo41⟩ := Kd.R_slice HO296.out; subst eo41) | ((with_reducible refine gf 92 rfl ?_); refine gL (some 60) rfl rfl Try.func92 rfl #[.agg #[.int .i64 t292, .int .i64 t293, .slice Ao41 t294.length co41]] rfl ?_; (with_reducible refine (bitmap_Trim.calls k3 t292 t293 _ _ t294 t299 t300 t301 t304 t305 t306 _ ?side1 ?side2 A17.out).mono ?_); (case side1 => refine (Kd.R_reads' (e := 5) (base := w.heap.size) (ok := fun k_ => ((w.heap.size ≤ k_) ∧ True)) (n := t294.length) (c := co41) ?_).2.2; exact (rU (Kd.R_mono (Kd.R_far (p := ⟨gb298, 2, none⟩) (Kd.R_far (p := ⟨gb298, 1, none⟩) (Kd.R_far (p := ⟨gb298, 0, none⟩) (Kd.R_types HO296.out BK298.out (by decide)) (fun _ hk => hk.2) (.int .i64 t292)) (fun _ hk => hk.2) (.int .i64 t293)) (fun _ hk => hk.2) (.slice Ao41 t294.length co41)) (fun _ h_ => h_.1)))); (case side2 => exact (Kd.R_reads' HO296.out).2.1); rintro e w42 ⟨v302, rfl, ho0, hb⟩; refine ⟨_, rfl, ?_⟩; have n_ := aC (Kd.N_elder' (by (with_reducible repeat (first | apply Kd.N_alloc | apply Kd.N_drewN | apply Kd.N_drew)); exact (Kd.N_mono (Kd.N_far (p := ⟨gb298, 2, none⟩) (Kd.N_far (p := ⟨gb298, 1, none⟩) (Kd.N_far (p := ⟨gb298, 0, none⟩) (Kd.N_mono HO_3.out (fun k_ hk => (⟨hk, hk.2⟩ : _ ∧ k_ ≠ gb298))) (fun _ hk => hk.2) (.int .i64 t292)) (fun _ hk => hk.2) (.int .i64 t293)) (fun _ hk => hk.2) (.slice Ao41 t294.length co41)) (fun _ h_ => h_.1))) (Kd.R_base ho0) hb) (aC (Kd.V_elder' (by (with_reducible repeat (first | apply Kd.V_alloc | apply Kd.V_drewN | apply Kd.V_drew)); exact (Kd.V_mono (Kd.V_far (p := ⟨gb298, 2, none⟩) (Kd.V_far (p := ⟨gb298, 1, none⟩) (Kd.V_far (p := ⟨gb298, 0, none⟩) (Kd.V_mono HO_289002.out (fun k_ hk => (⟨hk, hk.2⟩ : _ ∧ k_ ≠ gb298))) (fun _ hk => hk.2) (.int .i64 t292)) (fun _ hk => hk.2) (.int .i64 t293)) (fun _ hk => hk.2) (.slice Ao41 t294.length co41)) (fun _ h_ => h_.1))) (Kd.R_base ho0) hb) (aC (Kd.R_elder' (rU (Kd.R_mono (Kd.R_far (p := ⟨gb298, 2, none⟩) (Kd.R_far (p := ⟨gb298, 1, none⟩) (Kd.R_far (p := ⟨gb298, 0, none⟩) (Kd.R_types HO296.out BK298.out (by decide)) (fun _ hk => hk.2) (.int .i64 t292)) (fun _ hk => hk.2) (.int .i64 t293)) (fun _ hk => hk.2) (.slice Ao41 t294.length co41)) (fun _ h_ => h_.1))) (Kd.R_base ho0) hb) (aC (Kd.R_lower (Kd.R_new' (Kd.R_newM (M := fun k_ => (w.heap.size ≤ k_)) ho0 bz (fun k_ h_ => h_)) (Kd.R_lt (rU (Kd.R_mono (Kd.R_far (p := ⟨gb298, 2, none⟩) (Kd.R_far (p := ⟨gb298, 1, none⟩) (Kd.R_far (p := ⟨gb298, 0, none⟩) (Kd.R_types HO296.out BK298.out (by decide)) (fun _ hk => hk.2) (.int .i64 t292)) (fun _ hk => hk.2) (.int .i64 t293)) (fun _ hk => hk.2) (.slice Ao41 t294.length co41)) (fun _ h_ => h_.1))))) bz) (aC (blk_below (g := gb288) (o := .cells #[.int .i64 a0_0, .int .i64 a0_1, .slice A0_2 l0_2.length c0_2, .int .i64 a0_3, .int .i64 a0_4] 48 (0, 0)) (by (with_reducible repeat (first | refine blk_drewN ?_ _ | refine blk_drew ?_ | refine blk_alloc ?_ _)); refine blk_far ?_ NB288_298.out _; (with_reducible repeat (first | refine blk_drewN ?_ _ | refine blk_drew ?_ | refine blk_alloc ?_ _)); refine blk_far ?_ NB288_298.out _; (with_reducible repeat (first | refine blk_drewN ?_ _ | refine blk_drew ?_ | refine blk_alloc ?_ _)); refine blk_far ?_ NB288_298.out _; (with_reducible repeat (first | refine blk_drewN ?_ _ | refine blk_drew ?_ | refine blk_alloc ?_ _)); exact BK288.out) hb) (aC (blk_below (g := gb298) (o := .cells #[.int .i64 t292, .int .i64 t293, .slice Ao41 t294.length co41] 24 (0, 0)) (by (with_reducible repeat (first | refine blk_drewN ?_ _ | refine blk_drew ?_ | refine blk_alloc ?_ _)); refine blk_put (cs := #[.int .i64 t292, .int .i64 t293, .slice none 0 0]) ?_ 2 _ rfl; (with_reducible repeat (first | refine blk_drewN ?_ _ | refine blk_drew ?_ | refine blk_alloc ?_ _)); refine blk_put (cs := #[.int .i64 t292, .int .i64 0, .slice none 0 0]) ?_ 1 _ rfl; (with_reducible repeat (first | refine blk_drewN ?_ _ | refine blk_drew ?_ | refine blk_alloc ?_ _)); refine blk_put (cs := #[.int .i64 0, .int .i64 0, .slice none 0 0]) ?_ 0 _ rfl; (with_reducible repeat (first | refine blk_drewN ?_ _ | refine blk_drew ?_ | refine blk_alloc ?_ _)); exact BK298.out) hb) (aE (bs hb))))))); clear HO_3 HO_289002 HO296 BK288 BK298 HB; obtain ⟨HO_3, HO_289002, HO296, HO303, BK288, BK298, HB⟩ := n_; (try clear hb); (try clear ho0)) | ((with_reducible refine gd 8 rfl ?_); refine bx 8 #[.int .i64 0, .int .i64 0, .slice none 0 0] 24 rfl rfl ?_; intro gb307 hg w43 hbox hb; have n_ := aC (Kd.N_below (Kd.N_elderB (by (with_reducible repeat (first | apply Kd.N_alloc | apply Kd.N_drewN | apply Kd.N_drew)); exact HO_3.out) gb307 (Nat.le_of_eq hg.symm)) hb) (aC (Kd.V_below (Kd.V_elderB (by (with_reducible repeat (first | apply Kd.V_alloc | apply Kd.V_drewN | apply Kd.V_drew)); exact HO_289002.out) gb307 (Nat.le_of_eq hg.symm)) hb) (aC (Kd.R_below (rU HO296.out) hb) (aC (Kd.R_below (rU HO303.out) hb) (aC (blk_below (bU BK288.out) hb) (aC (blk_below (bU BK298.out) hb) (aC (bs hb) (aC hbox (aC (gz hg) (aC (gz hg) (aC (gn hg (bU BK288.out)) (aC (gm hg (bU BK288.out)) (aC (gn hg (bU BK298.out)) (aE (gm hg (bU BK298.out))))))))))))))); clear HO_3 HO_289002 HO296 HO303 BK288 BK298 HB; obtain ⟨HO_3, HO_289002, HO296, HO303, BK288, BK298, HB, BK307, GW307, GE307, NB288_307, NB307_288, NB298_307, NB307_298⟩ := n_; clear hb hbox hg; have hnb44 := NB307_288.out; have hnc44 := NB288_307.out; have hnb45 := NB307_298.out; have hnc45 := NB298_307.out; obtain ⟨hcz46_0, hcz46_1, hcz46_2, hfz46_0, hfz46_1, hfz46_2⟩ := cz3f BK307.out; obtain ⟨Ao47, co47, eo47⟩ := Kd.R_slice HO303.out; subst eo47))
           go_roundg k3
           case measure => have := HJ1.out; have := HK2.out; have := HK3.out; omega
           case rel => exact ⟨(x3_3), (wrap64 (x5_3 + 40)), rq, H', ⟨by have := HJ1.out; have := HK2.out; have := HK3.out; omega⟩, ⟨by (with_reducible repeat (first | apply Kd.N_alloc | apply Kd.N_drewN | apply Kd.N_drew)); exact Kd.N_mono (Kd.N_far (p := ⟨gb307, 2, none⟩) (Kd.N_far (p := ⟨gb307, 1, none⟩) (Kd.N_far (p := ⟨gb307, 0, none⟩) (Kd.N_mono HO_3.out (fun k_ hk => (⟨hk, hk.2⟩ : _ ∧ k_ ≠ gb307))) (fun _ hk => hk.2) (.int .i64 t299)) (fun _ hk => hk.2) (.int .i64 t300)) (fun _ hk => hk.2) (.slice Ao47 t301.length co47)) (fun _ hk => ⟨hk.1.1.1.1.1.1, hk.1.1.1.1.1.2⟩)⟩, ⟨by (with_reducible repeat (first | apply Kd.V_alloc | apply Kd.V_drewN | apply Kd.V_drew)); exact Kd.V_mono (Kd.V_far (p := ⟨gb307, 2, none⟩) (Kd.V_far (p := ⟨gb307, 1, none⟩) (Kd.V_far (p := ⟨gb307, 0, none⟩) (Kd.V_mono HO_289002.out (fun k_ hk => (⟨hk, hk.2⟩ : _ ∧ k_ ≠ gb307))) (fun _ hk => hk.2) (.int .i64 t299)) (fun _ hk => hk.2) (.int .i64 t300)) (fun _ hk => hk.2) (.slice Ao47 t301.length co47)) (fun _ hk => ⟨hk.1.1.1.1.1.1, ⟨hk.1.1.1.1.1.2.1, hk.1.1.1.1.1.2.2⟩⟩)⟩, ⟨by (with_reducible repeat (first | refine blk_drewN ?_ _ | refine blk_drew ?_ | refine blk_alloc ?_ _)); refine blk_far ?_ NB288_307.out _; (with_reducible repeat (first | refine blk_drewN ?_ _ | refine blk_drew ?_ | refine blk_alloc ?_ _)); refine blk_far ?_ NB288_307.out _; (with_reducible repeat (first | refine blk_drewN ?_ _ | refine blk_drew ?_ | refine blk_alloc ?_ _)); refine blk_far ?_ NB288_307.out _; (with_reducible repeat (first | refine blk_drewN ?_ _ | refine blk_drew ?_ | refine blk_alloc ?_ _)); exact BK288.out⟩, ⟨bl⟩⟩
         ·rw [if_neg c13] at H
          have c13b0 := decide_eq_false c13
          clear c13
          have H' := Aside0.mk H
          clear H
          obtain ⟨hcz48_0, hcz48_1, hcz48_2, hcz48_3, hcz48_4, hfz48_0, hfz48_1, hfz48_2, hfz48_3, hfz48_4⟩ := cz5f BK288.out
          go_wp2
          go_roundg k3
          case measure => have := HJ1.out; have := HK2.out; have := HK3.out; omega
          case rel => exact ⟨(x3_3), (wrap64 (x4_2 + 40)), rq, H', ⟨by have := HJ1.out; have := HK2.out; have := HK3.out; omega⟩, ⟨by (with_reducible repeat (first | apply Kd.N_alloc | apply Kd.N_drewN | apply Kd.N_drew)); exact HO_3.out⟩, ⟨by (with_reducible repeat (first | apply Kd.V_alloc | apply Kd.V_drewN | apply Kd.V_drew)); exact HO_289002.out⟩, ⟨bU BK288.out⟩, ⟨bl⟩⟩
      ·rw [if_neg c11] at H
       have c11b0 := decide_eq_false c11
       clear c11
       obtain rfl := Option.some.inj H
       obtain ⟨hcz49_0, hcz49_1, hcz49_2, hcz49_3, hcz49_4, hfz49_0, hfz49_1, hfz49_2, hfz49_3, hfz49_4⟩ := cz5f BK288.out
       go_wp2
       go_ret
       exact ⟨_, re, by (with_reducible repeat (first | apply Kd.N_alloc | apply Kd.N_drewN | apply Kd.N_drew)); exact Kd.N_mono HO_3.out (fun _ hk => hk.1), bl⟩

/-! ### shape_Pieces: function 32 -/
def shape_Pieces.l0 : Nat → List (S48) → List (S48) → Int → Int → Option ((List (S48)) × Int)
 | 0, _, _, _, _ => none
 | k + 1, x4, x11, x12, x13 => if x13 < x12 then (if 0 ≤ x13 then (if x13 < (x11.length : Int) then ((shape_tiles.f k ((rd_T48 x11 x13).f0.f0) ((rd_T48 x11 x13).f0.f1) ((rd_T48 x11 x13).f0.f2) ((rd_T48 x11 x13).f1) ((rd_T48 x11 x13).f2)).bind fun t318 => (if x4.length + t318.length < 2513169434916 then (shape_Pieces.l0 k (x4 ++ t318) x11 x12 (wrap64 (x13 + 1))) else (none))) else (none)) else (none)) else (some (x4, 0))
def shape_Pieces.f (k : Nat) (a0_0 : Int) (a0_1 : Int) (l0_2 : List Int) : Option ((List (S48)) × Int) := (bitmap_Valid.f k a0_0 a0_1 l0_2).bind fun t312 => (if t312 = true then ((shape_components.f k a0_0 a0_1 l0_2).bind fun t313 => (shape_Pieces.l0 k ([] : List (S48)) t313 (t313.length : Int) 0)) else (some (([] : List (S48)), 30)))
theorem shape_Pieces.mono_l : ∀ k, (∀ y0 y1 y2 y3, LeO (shape_Pieces.l0 k y0 y1 y2 y3) (shape_Pieces.l0 (k + 1) y0 y1 y2 y3))
 | 0 => fun _ _ _ _ r h => by simp [shape_Pieces.l0] at h
 | k + 1 => by
  have ih0 := shape_Pieces.mono_l k
  ·intro y0 y1 y2 y3
   unfold shape_Pieces.l0
   repeat' first
   | (with_reducible exact ih0 _ _ _ _)
   | (with_reducible exact bitmap_Valid.mono _ _ _ _)
   | (with_reducible exact shape_components.mono _ _ _ _)
   | (with_reducible exact shape_tiles.mono _ _ _ _ _ _)
   | (with_reducible first | exact LeO.refl _ | exact LeO.none _ | refine LeO.ite ?_ ?_ | refine LeO.bind ?_ (fun _ => ?_))
   | exact ih0 _ _ _ _
   | exact bitmap_Valid.mono _ _ _ _
   | exact shape_components.mono _ _ _ _
   | exact shape_tiles.mono _ _ _ _ _ _
   | exact LeO.none _ | refine LeO.ite ?_ ?_ | refine LeO.bind ?_ (fun _ => ?_)
theorem shape_Pieces.mono : ∀ a0 a1 a2 k, LeO (shape_Pieces.f k a0 a1 a2) (shape_Pieces.f (k + 1) a0 a1 a2) := by
 intro a0 a1 a2 k
 have ih0 := shape_Pieces.mono_l k
 unfold shape_Pieces.f
 repeat' first
   | (with_reducible exact ih0 _ _ _ _)
   | (with_reducible exact bitmap_Valid.mono _ _ _ _)
   | (with_reducible exact shape_components.mono _ _ _ _)
   | (with_reducible exact shape_tiles.mono _ _ _ _ _ _)
   | (with_reducible first | exact LeO.refl _ | exact LeO.none _ | refine LeO.ite ?_ ?_ | refine LeO.bind ?_ (fun _ => ?_))
   | exact ih0 _ _ _ _
   | exact bitmap_Valid.mono _ _ _ _
   | exact shape_components.mono _ _ _ _
   | exact shape_tiles.mono _ _ _ _ _ _
   | exact LeO.none _ | refine LeO.ite ?_ ?_ | refine LeO.bind ?_ (fun _ => ?_)
set_option maxHeartbeats 8000000 in
set_option maxRecDepth 100000 in
theorem shape_Pieces.calls (k : Nat) (a0_0 : Int) (a0_1 : Int) (A0_2 : Option Addr) (c0_2 : Nat) (l0_2 : List Int) (r1 : List (S48)) (r2 : Int) (w : World) (hr0_2 : Kd.C (Kd.int .u8) w A0_2 l0_2.length l0_2) (hc0_2 : l0_2.length ≤ c0_2) (h : shape_Pieces.f k a0_0 a0_1 l0_2 = some (r1, r2)) :
  Calls Try.prog 32 #[.agg #[.int .i64 a0_0, .int .i64 a0_1, .slice A0_2 l0_2.length c0_2]] w fun e w' => ∃ v0_ : Value, e = .returned (.tuple #[v0_, .int .i64 r2]) ∧ Kd.N k48 48 w' w.heap.size (fun k_ => (w.heap.size ≤ k_)) v0_ r1 ∧ Below w.heap.size w w' := by
 have hu24 := Try.underlying24
 have hu48 := Try.underlying48
 have HR0_2 := Aside0.mk hr0_2
 have HC0_2 := Aside0.mk hc0_2
 clear hr0_2 hc0_2
 have HB := Aside0.mk (Below.refl w.heap.size w)
 have H : ((bitmap_Valid.f k a0_0 a0_1 l0_2).bind fun t312 => (if t312 = true then ((shape_components.f k a0_0 a0_1 l0_2).bind fun t313 => (shape_Pieces.l0 k ([] : List (S48)) t313 (t313.length : Int) 0)) else (some (([] : List (S48)), 30)))) = some (r1, r2) := h
 clear h
 replace H := Option.bind_eq_some_iff.mp H
 obtain ⟨t312, A20, H⟩ := H
 replace H : (if t312 = true then ((shape_components.f k a0_0 a0_1 l0_2).bind fun t313 => (shape_Pieces.l0 k ([] : List (S48)) t313 (t313.length : Int) 0)) else (some (([] : List (S48)), 30))) = some (r1, r2) := H
 have A2 := Aside0.mk A20
 clear A20
 by_cases c3 : t312 = true
 ·subst c3
  have H1 : ((shape_components.f k a0_0 a0_1 l0_2).bind fun t313 => (shape_Pieces.l0 k ([] : List (S48)) t313 (t313.length : Int) 0)) = some (r1, r2) := by rw [if_pos rfl] at H; exact H
  clear H
  have H := H1
  clear H1
  replace H := Option.bind_eq_some_iff.mp H
  obtain ⟨t313, A40, H⟩ := H
  replace H : (shape_Pieces.l0 k ([] : List (S48)) t313 (t313.length : Int) 0) = some (r1, r2) := H
  have A4 := Aside0.mk A40
  clear A40
  have H' := Aside0.mk H
  clear H
  go_enter Try.func32, Try.ntmps32
  go_wp2_with (first | ((with_reducible refine gd 1 rfl ?_); refine bx 1 #[.int .i64 a0_0, .int .i64 a0_1, .slice A0_2 l0_2.length c0_2] 24 rfl rfl ?_; intro gb311 hg w5 hbox hb; have n_ := aC (bs hb) (aC hbox (aC (gz hg) (aE (gz hg)))); clear HB; obtain ⟨HB, BK311, GW311, GE311⟩ := n_; clear hb hbox hg; obtain ⟨hcz6_0, hcz6_1, hcz6_2, hfz6_0, hfz6_1, hfz6_2⟩ := cz3f BK311.out) | ((with_reducible refine gf 38 rfl ?_); refine gL (some 8) rfl rfl Try.func38 rfl #[.agg #[.int .i64 a0_0, .int .i64 a0_1, .slice A0_2 l0_2.length c0_2]] rfl ?_; (with_reducible refine (bitmap_Valid.calls k a0_0 a0_1 _ _ l0_2 true _ ?side1 ?side2 A2.out).mono ?_); (case side1 => exact cU (Kd.C_below HR0_2.out HB.out)); (case side2 => exact HC0_2.out); rintro e w7 ⟨rfl, hb⟩; refine ⟨_, rfl, ?_⟩; have n_ := aC (blk_below (bU BK311.out) hb) (aE (bs hb)); clear BK311 HB; obtain ⟨BK311, HB⟩ := n_; (try clear hb); obtain ⟨hcz8_0, hcz8_1, hcz8_2, hfz8_0, hfz8_1, hfz8_2⟩ := cz3f BK311.out) | ((with_reducible refine gf 51 rfl ?_); refine gL (some 11) rfl rfl Try.func51 rfl #[.agg #[.int .i64 a0_0, .int .i64 a0_1, .slice A0_2 l0_2.length c0_2]] rfl ?_; (with_reducible refine (shape_components.calls k a0_0 a0_1 _ _ l0_2 t313 _ ?side1 ?side2 A4.out).mono ?_); (case side1 => exact cU (Kd.C_below HR0_2.out HB.out)); (case side2 => exact HC0_2.out); rintro e w9 ⟨v314, rfl, ho0, hb⟩; refine ⟨_, rfl, ?_⟩; have n_ := aC (Kd.N_lower (Kd.N_mono (ok' := fun k_ => (w.heap.size ≤ k_) ∧ k_ ≠ gb311) (Kd.S_N (Kd.S_bound ho0)) (fun k_ hk_ => ⟨(Nat.le_trans bz hk_.2.1), (Kd.freshB (bU BK311.out) k_ hk_.2.1)⟩)) bz) (aC (blk_below (bU BK311.out) hb) (aE (bs hb))); clear BK311 HB; obtain ⟨HO315, BK311, HB⟩ := n_; (try clear hb); (try clear ho0); obtain ⟨Ao10, co10, eo10⟩ := Kd.N_slice HO315.out; subst eo10))
  go_loopg [4, 13] k (fun kq v4 v13 w' => ∃ (x4_1 : List (S48)) (x13_1 : Int), v13 = .int .i64 x13_1 ∧ Aside0 (shape_Pieces.l0 kq x4_1 t313 (t313.length : Int) x13_1 = some (r1, r2)) ∧ Aside0 (kq ≤ k) ∧ Aside0 (Kd.N k48 48 w' w.heap.size (fun k_ => (w.heap.size ≤ k_) ∧ some k_ ≠ ((.slice Ao10 t313.length co10) : Value).ownBlock ∧ k_ ≠ gb311) v4 x4_1) ∧ Aside0 (Kd.N k48 48 w' w.heap.size (fun k_ => (w.heap.size ≤ k_) ∧ some k_ ≠ (v4 : Value).ownBlock ∧ k_ ≠ gb311) (.slice Ao10 t313.length co10) t313) ∧ Aside0 (w'.heap[gb311]? = some (.cells #[.int .i64 a0_0, .int .i64 a0_1, (.slice A0_2 l0_2.length c0_2)] 24 (0, 0))) ∧ Aside0 (Below w.heap.size w w'))
  case atStart => exact ⟨(([] : List (S48))), (0), rq, H', ⟨Nat.le_refl _⟩, ⟨by first | exact Kd.S_nil _ _ _ _ _ | exact Kd.N_nil _ _ _ _ _ | exact Kd.V_nil _ _ _ _ _ | exact Kd.Q_nil _ _ _ _ _ | exact Kd.R_nil _ _ _ _ _⟩, ⟨by (with_reducible repeat (first | apply Kd.N_alloc | apply Kd.N_drewN | apply Kd.N_drew)); exact Kd.N_mono HO315.out (fun _ hk => ⟨hk.1, ⟨(by simp [Value.ownBlock]), hk.2⟩⟩)⟩, ⟨bU BK311.out⟩, ⟨bl⟩⟩
  case round =>
   clear H'
   obtain ⟨x4_1, x13_1, rfl, HA, HK1, HO_4, HO_11, BK311, HB⟩ := hrel
   cases gk with
   | zero => exact absurd HA.out (by simp [shape_Pieces.l0])
   | succ k1 =>
    have H := HA.out
    clear HA
    simp only [shape_Pieces.l0] at H
    by_cases c11 : x13_1 < (t313.length : Int)
    ·rw [if_pos c11] at H
     have c11b0 := decide_eq_true c11
     clear c11
     by_cases c12 : 0 ≤ x13_1
     ·rw [if_pos c12] at H
      have c12b0 := decide_eq_true c12
      clear c12
      by_cases c13 : x13_1 < (t313.length : Int)
      ·rw [if_pos c13] at H
       have c13b0 := decide_eq_true c13
       clear c13
       replace H := Option.bind_eq_some_iff.mp H
       obtain ⟨t318, A140, H⟩ := H
       replace H : (if x4_1.length + t318.length < 2513169434916 then (shape_Pieces.l0 k1 (x4_1 ++ t318) t313 (t313.length : Int) (wrap64 (x13_1 + 1))) else (none)) = some (r1, r2) := H
       have A14 := Aside0.mk A140
       clear A140
       by_cases c15 : x4_1.length + t318.length < 2513169434916
       ·rw [if_pos c15] at H
        have LMc15 := Aside0.mk c15
        clear c15
        obtain ⟨y321, hy_⟩ : ∃ y_ : List (S48), y_ = (x4_1 ++ t318) := ⟨_, rfl⟩
        replace H : (shape_Pieces.l0 k1 y321 t313 (t313.length : Int) (wrap64 (x13_1 + 1))) = some (r1, r2) := rh
        have Ny321 := aE hy_
        clear hy_
        have H' := Aside0.mk H
        clear H
        have p316 : 0 ≤ (x13_1 : Int) := dt
        have q316 : x13_1 < (t313.length : Int) := dt
        obtain ⟨ad316, A316_2, c316_2, e316, hx316_0, hx316_1, hx316_2, hx316_3, hx316_4, hl316_2, hi316_2⟩ := at_T48 (Kd.N_reads' HO_11.out).2.2 x13_1 p316 q316
        cases e316
        obtain ⟨ce316, hce316, hMe316, hcc316⟩ := Kd.N_get HO_11.out z48 x13_1 p316 (by first | exact q316 | exact dt | (have e_ := (Kd.N_reads' HO_11.out).1; omega))
        obtain ⟨ua316_2, uc316_2, rfl, ul316_2, ge316_2⟩ := k48_openF hMe316
        have hv316_2 := hcc316 2 _ rfl
        rw [add_field _ _ 2 (by omega)] at hv316_2
        replace hv316_2 := Option.some.inj (hv316_2.symm.trans hx316_2)
        injection hv316_2 with hva_ hvn_ hvc_
        rw [hva_] at ge316_2
        rw [hvc_] at ul316_2
        have HL316_2 := Aside0.mk (show Kd.V (Kd.int .u8) 5 _ w.heap.size _ _ ((rd_T48 t313 x13_1).f0.f2) from Kd.V_mk ul316_2 ge316_2)
        clear hva_ hvn_ hvc_ ge316_2 ul316_2
        clear hcc316 hce316
        have HR316_2 := Aside0.mk hi316_2
        have HC316_2 := Aside0.mk hl316_2
        clear hi316_2 hl316_2
        replace p316 := eq_true p316
        replace q316 := eq_true q316
        go_wp2_with (first | ((with_reducible refine gd 6 rfl ?_); refine bx 6 #[.int .i64 0, .int .i64 0, .slice none 0 0, .int .i64 0, .int .i64 0] 48 rfl rfl ?_; intro gb317 hg w16 hbox hb; have n_ := aC (Kd.N_below (Kd.N_elderB (by (with_reducible repeat (first | apply Kd.N_alloc | apply Kd.N_drewN | apply Kd.N_drew)); exact HO_4.out) gb317 (Nat.le_of_eq hg.symm)) hb) (aC (Kd.N_below (Kd.N_elderB (by (with_reducible repeat (first | apply Kd.N_alloc | apply Kd.N_drewN | apply Kd.N_drew)); exact HO_11.out) gb317 (Nat.le_of_eq hg.symm)) hb) (aC (Kd.V_below (Kd.V_elderB (by (with_reducible repeat (first | apply Kd.V_alloc | apply Kd.V_drewN | apply Kd.V_drew)); exact HL316_2.out) gb317 (Nat.le_of_eq hg.symm)) hb) (aC (blk_below (bU BK311.out) hb) (aC (Kd.C_below (by repeat (first | (with_reducible exact HR316_2.out) | (with_reducible refine Kd.C_alloc ?_ _) | (with_reducible refine Kd.C_drewN ?_ _) | (with_reducible refine Kd.C_drew ?_) | exact HR316_2.out)) hb) (aC (bs hb) (aC hbox (aC (gz hg) (aC (gz hg) (aC (gn hg (bU BK311.out)) (aE (gm hg (bU BK311.out)))))))))))); clear HO_4 HO_11 HL316_2 BK311 HR316_2 HB; obtain ⟨HO_4, HO_11, HL316_2, BK311, HR316_2, HB, BK317, GW317, GE317, NB311_317, NB317_311⟩ := n_; clear hb hbox hg; have hnb17 := NB317_311.out; have hnc17 := NB311_317.out; obtain ⟨hcz18_0, hcz18_1, hcz18_2, hcz18_3, hcz18_4, hfz18_0, hfz18_1, hfz18_2, hfz18_3, hfz18_4⟩ := cz5f BK317.out) | ((with_reducible refine gate_store (t := 48) (p := 6) rfl ?_); refine store_event (t := 48) (p := 6) (v := ?vo_w19) (w1 := (((((w16.setCell ⟨gb317, 0, none⟩ (.int .i64 ((rd_T48 t313 x13_1).f0.f0))).setCell ⟨gb317, 1, none⟩ (.int .i64 ((rd_T48 t313 x13_1).f0.f1))).setCell ⟨gb317, 2, none⟩ (.slice A316_2 ((rd_T48 t313 x13_1).f0.f2).length c316_2)).setCell ⟨gb317, 3, none⟩ (.int .i64 ((rd_T48 t313 x13_1).f1))).setCell ⟨gb317, 4, none⟩ (.int .i64 ((rd_T48 t313 x13_1).f2)))) ?hg ?ho ?hn ?hr ?_; (case ho => rfl); (case hg => rfl); (case hn => rfl); (case hr => first | (go_simp; done) | (go_simp; rfl)); intro w19 hw; have n_ := aC (show Kd.N k48 48 w19 w.heap.size (fun k_ => (w.heap.size ≤ k_) ∧ some k_ ≠ (.slice (some ad316) t313.length co10 : Value).ownBlock ∧ k_ ≠ gb311 ∧ k_ ≠ gb317) u4 x4_1 from (by rw [hw]; exact (by (with_reducible repeat (first | apply Kd.N_alloc | apply Kd.N_drewN | apply Kd.N_drew)); exact Kd.N_mono (Kd.N_far (p := ⟨gb317, 4, none⟩) (Kd.N_far (p := ⟨gb317, 3, none⟩) (Kd.N_far (p := ⟨gb317, 2, none⟩) (Kd.N_far (p := ⟨gb317, 1, none⟩) (Kd.N_far (p := ⟨gb317, 0, none⟩) (Kd.N_mono HO_4.out (fun k_ hk => (⟨hk, hk.2⟩ : _ ∧ k_ ≠ gb317))) (fun _ hk => hk.2) (.int .i64 ((rd_T48 t313 x13_1).f0.f0))) (fun _ hk => hk.2) (.int .i64 ((rd_T48 t313 x13_1).f0.f1))) (fun _ hk => hk.2) (.slice A316_2 ((rd_T48 t313 x13_1).f0.f2).length c316_2)) (fun _ hk => hk.2) (.int .i64 ((rd_T48 t313 x13_1).f1))) (fun _ hk => hk.2) (.int .i64 ((rd_T48 t313 x13_1).f2))) (fun _ hk => ⟨hk.1.1.1, ⟨hk.1.1.2.1, ⟨hk.1.1.2.2, hk.1.2⟩⟩⟩)))) (aC (show Kd.N k48 48 w19 w.heap.size (fun k_ => (w.heap.size ≤ k_) ∧ some k_ ≠ (u4 : Value).ownBlock ∧ k_ ≠ gb311 ∧ k_ ≠ gb317) (.slice (some ad316) t313.length co10) t313 from (by rw [hw]; exact (by (with_reducible repeat (first | apply Kd.N_alloc | apply Kd.N_drewN | apply Kd.N_drew)); exact Kd.N_mono (Kd.N_far (p := ⟨gb317, 4, none⟩) (Kd.N_far (p := ⟨gb317, 3, none⟩) (Kd.N_far (p := ⟨gb317, 2, none⟩) (Kd.N_far (p := ⟨gb317, 1, none⟩) (Kd.N_far (p := ⟨gb317, 0, none⟩) (Kd.N_mono HO_11.out (fun k_ hk => (⟨hk, hk.2⟩ : _ ∧ k_ ≠ gb317))) (fun _ hk => hk.2) (.int .i64 ((rd_T48 t313 x13_1).f0.f0))) (fun _ hk => hk.2) (.int .i64 ((rd_T48 t313 x13_1).f0.f1))) (fun _ hk => hk.2) (.slice A316_2 ((rd_T48 t313 x13_1).f0.f2).length c316_2)) (fun _ hk => hk.2) (.int .i64 ((rd_T48 t313 x13_1).f1))) (fun _ hk => hk.2) (.int .i64 ((rd_T48 t313 x13_1).f2))) (fun _ hk => ⟨hk.1.1.1, ⟨hk.1.1.2.1, ⟨hk.1.1.2.2, hk.1.2⟩⟩⟩)))) (aC (show Kd.V (Kd.int .u8) 5 w19 w.heap.size (fun k_ => (w.heap.size ≤ k_) ∧ some k_ ≠ (u4 : Value).ownBlock ∧ some k_ ≠ (.slice (some ad316) t313.length co10 : Value).ownBlock ∧ k_ ≠ gb311 ∧ k_ ≠ gb317) (.slice A316_2 ((rd_T48 t313 x13_1).f0.f2).length c316_2) ((rd_T48 t313 x13_1).f0.f2) from (by rw [hw]; exact (by (with_reducible repeat (first | apply Kd.V_alloc | apply Kd.V_drewN | apply Kd.V_drew)); exact Kd.V_mono (Kd.V_far (p := ⟨gb317, 4, none⟩) (Kd.V_far (p := ⟨gb317, 3, none⟩) (Kd.V_far (p := ⟨gb317, 2, none⟩) (Kd.V_far (p := ⟨gb317, 1, none⟩) (Kd.V_far (p := ⟨gb317, 0, none⟩) (Kd.V_mono HL316_2.out (fun k_ hk => (⟨hk, hk.2⟩ : _ ∧ k_ ≠ gb317))) (fun _ hk => hk.2) (.int .i64 ((rd_T48 t313 x13_1).f0.f0))) (fun _ hk => hk.2) (.int .i64 ((rd_T48 t313 x13_1).f0.f1))) (fun _ hk => hk.2) (.slice A316_2 ((rd_T48 t313 x13_1).f0.f2).length c316_2)) (fun _ hk => hk.2) (.int .i64 ((rd_T48 t313 x13_1).f1))) (fun _ hk => hk.2) (.int .i64 ((rd_T48 t313 x13_1).f2))) (fun _ hk => ⟨hk.1.1.1.1, ⟨hk.1.1.1.2.1, ⟨hk.1.1.2, ⟨hk.1.1.1.2.2, hk.1.2⟩⟩⟩⟩)))) (aC (show w19.heap[gb311]? = some (.cells #[.int .i64 a0_0, .int .i64 a0_1, .slice A0_2 l0_2.length c0_2] 24 (0, 0)) from (by rw [hw]; exact (by (with_reducible repeat (first | refine blk_drewN ?_ _ | refine blk_drew ?_ | refine blk_alloc ?_ _)); refine blk_far ?_ NB311_317.out _; (with_reducible repeat (first | refine blk_drewN ?_ _ | refine blk_drew ?_ | refine blk_alloc ?_ _)); refine blk_far ?_ NB311_317.out _; (with_reducible repeat (first | refine blk_drewN ?_ _ | refine blk_drew ?_ | refine blk_alloc ?_ _)); refine blk_far ?_ NB311_317.out _; (with_reducible repeat (first | refine blk_drewN ?_ _ | refine blk_drew ?_ | refine blk_alloc ?_ _)); refine blk_far ?_ NB311_317.out _; (with_reducible repeat (first | refine blk_drewN ?_ _ | refine blk_drew ?_ | refine blk_alloc ?_ _)); refine blk_far ?_ NB311_317.out _; (with_reducible repeat (first | refine blk_drewN ?_ _ | refine blk_drew ?_ | refine blk_alloc ?_ _)); exact BK311.out))) (aC (show w19.heap[gb317]? = some (.cells #[.int .i64 ((rd_T48 t313 x13_1).f0.f0), .int .i64 ((rd_T48 t313 x13_1).f0.f1), .slice A316_2 ((rd_T48 t313 x13_1).f0.f2).length c316_2, .int .i64 ((rd_T48 t313 x13_1).f1), .int .i64 ((rd_T48 t313 x13_1).f2)] 48 (0, 0)) from (by rw [hw]; exact (by (with_reducible repeat (first | refine blk_drewN ?_ _ | refine blk_drew ?_ | refine blk_alloc ?_ _)); refine blk_put (cs := #[.int .i64 ((rd_T48 t313 x13_1).f0.f0), .int .i64 ((rd_T48 t313 x13_1).f0.f1), .slice A316_2 ((rd_T48 t313 x13_1).f0.f2).length c316_2, .int .i64 ((rd_T48 t313 x13_1).f1), .int .i64 0]) ?_ 4 _ rfl; (with_reducible repeat (first | refine blk_drewN ?_ _ | refine blk_drew ?_ | refine blk_alloc ?_ _)); refine blk_put (cs := #[.int .i64 ((rd_T48 t313 x13_1).f0.f0), .int .i64 ((rd_T48 t313 x13_1).f0.f1), .slice A316_2 ((rd_T48 t313 x13_1).f0.f2).length c316_2, .int .i64 0, .int .i64 0]) ?_ 3 _ rfl; (with_reducible repeat (first | refine blk_drewN ?_ _ | refine blk_drew ?_ | refine blk_alloc ?_ _)); refine blk_put (cs := #[.int .i64 ((rd_T48 t313 x13_1).f0.f0), .int .i64 ((rd_T48 t313 x13_1).f0.f1), .slice none 0 0, .int .i64 0, .int .i64 0]) ?_ 2 _ rfl; (with_reducible repeat (first | refine blk_drewN ?_ _ | refine blk_drew ?_ | refine blk_alloc ?_ _)); refine blk_put (cs := #[.int .i64 ((rd_T48 t313 x13_1).f0.f0), .int .i64 0, .slice none 0 0, .int .i64 0, .int .i64 0]) ?_ 1 _ rfl; (with_reducible repeat (first | refine blk_drewN ?_ _ | refine blk_drew ?_ | refine blk_alloc ?_ _)); refine blk_put (cs := #[.int .i64 0, .int .i64 0, .slice none 0 0, .int .i64 0, .int .i64 0]) ?_ 0 _ rfl; (with_reducible repeat (first | refine blk_drewN ?_ _ | refine blk_drew ?_ | refine blk_alloc ?_ _)); exact BK317.out))) (aE (show Below w.heap.size w w19 from (by rw [hw]; exact bl))))))); clear hw HO_4 HO_11 HL316_2 BK311 BK317 HB; obtain ⟨HO_4, HO_11, HL316_2, BK311, BK317, HB⟩ := n_; obtain ⟨hcz20_0, hcz20_1, hcz20_2, hcz20_3, hcz20_4, hfz20_0, hfz20_1, hfz20_2, hfz20_3, hfz20_4⟩ := cz5f BK317.out) | ((with_reducible refine gf 64 rfl ?_); refine gL (some 19) rfl rfl Try.func64 rfl #[.agg #[.int .i64 ((rd_T48 t313 x13_1).f0.f0), .int .i64 ((rd_T48 t313 x13_1).f0.f1), .slice A316_2 ((rd_T48 t313 x13_1).f0.f2).length c316_2, .int .i64 ((rd_T48 t313 x13_1).f1), .int .i64 ((rd_T48 t313 x13_1).f2)]] rfl ?_; (with_reducible refine (shape_tiles.calls k1 ((rd_T48 t313 x13_1).f0.f0) ((rd_T48 t313 x13_1).f0.f1) (fun k_ => ((w.heap.size ≤ k_) ∧ (some k_ ≠ (u4 : Value).ownBlock ∧ (some k_ ≠ (.slice (some ad316) t313.length co10 : Value).ownBlock ∧ (k_ ≠ gb311 ∧ k_ ≠ gb317))))) _ _ ((rd_T48 t313 x13_1).f0.f2) ((rd_T48 t313 x13_1).f1) ((rd_T48 t313 x13_1).f2) t318 _ ?side1 A14.out).mono ?_); (case side1 => exact HL316_2.out); rintro e w21 ⟨v319, rfl, ho0, hb⟩; refine ⟨_, rfl, ?_⟩; have n_ := aC (Kd.N_elder' (by (with_reducible repeat (first | apply Kd.N_alloc | apply Kd.N_drewN | apply Kd.N_drew)); exact HO_4.out) (Kd.N_base ho0) hb) (aC (Kd.N_elder' (by (with_reducible repeat (first | apply Kd.N_alloc | apply Kd.N_drewN | apply Kd.N_drew)); exact HO_11.out) (Kd.N_base ho0) hb) (aC (Kd.V_elder' (by (with_reducible repeat (first | apply Kd.V_alloc | apply Kd.V_drewN | apply Kd.V_drew)); exact HL316_2.out) (Kd.N_base ho0) hb) (aC (Kd.N_lower (Kd.N_mono (ok' := fun k_ => (w.heap.size ≤ k_) ∧ some k_ ≠ (u4 : Value).ownBlock ∧ some k_ ≠ (.slice (some ad316) t313.length co10 : Value).ownBlock ∧ k_ ≠ gb311 ∧ k_ ≠ gb317) ho0 (fun k_ hk_ => ⟨Or.elim hk_ (fun hs_ => hs_.1) (fun hn_ => (Nat.le_trans bz hn_)), Or.elim hk_ (fun hs_ => hs_.2.1) (fun hn_ => (Kd.fresh' (Kd.N_lt (by (with_reducible repeat (first | apply Kd.N_alloc | apply Kd.N_drewN | apply Kd.N_drew)); exact HO_4.out)) k_ hn_)), Or.elim hk_ (fun hs_ => hs_.2.2.1) (fun hn_ => (Kd.fresh' (Kd.N_lt (by (with_reducible repeat (first | apply Kd.N_alloc | apply Kd.N_drewN | apply Kd.N_drew)); exact HO_11.out)) k_ hn_)), Or.elim hk_ (fun hs_ => hs_.2.2.2.1) (fun hn_ => (Kd.freshB (bU BK311.out) k_ hn_)), Or.elim hk_ (fun hs_ => hs_.2.2.2.2) (fun hn_ => (Kd.freshB (g := gb317) (o := .cells #[.int .i64 ((rd_T48 t313 x13_1).f0.f0), .int .i64 ((rd_T48 t313 x13_1).f0.f1), .slice A316_2 ((rd_T48 t313 x13_1).f0.f2).length c316_2, .int .i64 ((rd_T48 t313 x13_1).f1), .int .i64 ((rd_T48 t313 x13_1).f2)] 48 (0, 0)) (bU BK317.out) k_ hn_))⟩)) bz) (aC (blk_below (bU BK311.out) hb) (aC (blk_below (g := gb317) (o := .cells #[.int .i64 ((rd_T48 t313 x13_1).f0.f0), .int .i64 ((rd_T48 t313 x13_1).f0.f1), .slice A316_2 ((rd_T48 t313 x13_1).f0.f2).length c316_2, .int .i64 ((rd_T48 t313 x13_1).f1), .int .i64 ((rd_T48 t313 x13_1).f2)] 48 (0, 0)) (bU BK317.out) hb) (aE (bs hb))))))); clear HO_4 HO_11 HL316_2 BK311 BK317 HB; obtain ⟨HO_4, HO_11, HL316_2, HO320, BK311, BK317, HB⟩ := n_; (try clear hb); (try clear ho0); obtain ⟨Ao23, co23, eo23⟩ := Kd.N_slice HO320.out; subst eo23) | ((with_reducible refine gate_builtin (b := .append) (xs := #[.tmp 17, .tmp 19]) rfl ?_); at_builtin; refine Kd.N_append_rows k48 (w0 := w) w.heap.size rfl (.tmp 17) (.tmp 19) 40 48 (.agg #[(.int .i64 0), (.int .i64 0), (.slice none 0 0), (.int .i64 0), (.int .i64 0)]) 56 rfl Try.underlying40 info48 rfl (by decide) (by omega) u4 x4_1 t318 _ _ _ (fun k_ => (w.heap.size ≤ k_) ∧ some k_ ≠ (.slice (some ad316) t313.length co10 : Value).ownBlock ∧ k_ ≠ gb311 ∧ k_ ≠ gb317) (fun k_ => ((fun k_ => (w.heap.size ≤ k_) ∧ some k_ ≠ (.slice (some ad316) t313.length co10 : Value).ownBlock ∧ k_ ≠ gb311 ∧ k_ ≠ gb317)) k_ ∧ some k_ ≠ (u4 : Value).ownBlock) rfl rfl ?aO ?aR (fun _ hk => hk) ?aF ?aB ?aS ?aL ?_; (case aR => exact (by skip; exact Kd.N_F (Kd.N_mono (ok' := (fun k_ => ((fun k_ => (w.heap.size ≤ k_) ∧ some k_ ≠ (.slice (some ad316) t313.length co10 : Value).ownBlock ∧ k_ ≠ gb311 ∧ k_ ≠ gb317)) k_ ∧ some k_ ≠ (u4 : Value).ownBlock)) (HO320.out) (fun k_ hk => ⟨⟨hk.1, ⟨hk.2.2.1, ⟨hk.2.2.2.1, hk.2.2.2.2⟩⟩⟩, hk.2.1⟩)))); (case aB => exact bl); (case aF => exact (fun k_ hk => ⟨(Nat.le_trans bz hk), Kd.fresh' (Kd.N_lt (by (with_reducible repeat (first | apply Kd.N_alloc | apply Kd.N_drewN | apply Kd.N_drew)); exact HO_11.out)) k_ hk, Kd.freshB (bU BK311.out) k_ hk, Kd.freshB (g := gb317) (o := .cells #[.int .i64 ((rd_T48 t313 x13_1).f0.f0), .int .i64 ((rd_T48 t313 x13_1).f0.f1), .slice A316_2 ((rd_T48 t313 x13_1).f0.f2).length c316_2, .int .i64 ((rd_T48 t313 x13_1).f1), .int .i64 ((rd_T48 t313 x13_1).f2)] 48 (0, 0)) (bU BK317.out) k_ hk⟩)); (case aO => exact (by (with_reducible repeat (first | apply Kd.N_alloc | apply Kd.N_drewN | apply Kd.N_drew)); exact Kd.N_mono HO_4.out (fun _ hk => ⟨hk.1.1, ⟨hk.1.2.1, ⟨hk.1.2.2.1, hk.1.2.2.2⟩⟩⟩))); (case aS => exact bz); (case aL => have := LMc15.out; omega); intro v322 w22 ho hb hg hat; rw [← Ny321.out] at ho; have n_ := aC (Kd.N_afterv (ok := (fun k_ => (w.heap.size ≤ k_) ∧ some k_ ≠ (.slice Ao23 t318.length co23 : Value).ownBlock ∧ k_ ≠ gb311 ∧ k_ ≠ gb317)) (by (with_reducible repeat (first | apply Kd.N_alloc | apply Kd.N_drewN | apply Kd.N_drew)); exact Kd.N_mono HO_11.out (fun _ hk => ⟨⟨hk.1.1, ⟨hk.2, ⟨hk.1.2.2.1, hk.1.2.2.2⟩⟩⟩, hk.1.2.1⟩)) hg hat) (aC (blk_grown (bU BK311.out) hg (Kd.N_ne HO_4.out BK311.out (by decide))) (aC (Kd.V_afterv (ok := (fun k_ => (w.heap.size ≤ k_) ∧ some k_ ≠ (.slice (some ad316) t313.length co10 : Value).ownBlock ∧ some k_ ≠ (.slice Ao23 t318.length co23 : Value).ownBlock ∧ k_ ≠ gb311 ∧ k_ ≠ gb317)) (by (with_reducible repeat (first | apply Kd.V_alloc | apply Kd.V_drewN | apply Kd.V_drew)); exact Kd.V_mono HL316_2.out (fun _ hk => ⟨⟨hk.1.1, ⟨hk.1.2.2.1, ⟨hk.2, ⟨hk.1.2.2.2.1, hk.1.2.2.2.2⟩⟩⟩⟩, hk.1.2.1⟩)) hg hat) (aC (blk_grown (g := gb317) (o := .cells #[.int .i64 ((rd_T48 t313 x13_1).f0.f0), .int .i64 ((rd_T48 t313 x13_1).f0.f1), .slice A316_2 ((rd_T48 t313 x13_1).f0.f2).length c316_2, .int .i64 ((rd_T48 t313 x13_1).f1), .int .i64 ((rd_T48 t313 x13_1).f2)] 48 (0, 0)) (bU BK317.out) hg (Kd.N_away HO_4.out (fun _ hk => hk.1.2.2.2))) (aC (Kd.N_afterv (ok := (fun k_ => (w.heap.size ≤ k_) ∧ some k_ ≠ (.slice (some ad316) t313.length co10 : Value).ownBlock ∧ k_ ≠ gb311 ∧ k_ ≠ gb317)) (by (with_reducible repeat (first | apply Kd.N_alloc | apply Kd.N_drewN | apply Kd.N_drew)); exact Kd.N_mono HO320.out (fun _ hk => ⟨⟨hk.1, ⟨hk.2.2.1, ⟨hk.2.2.2.1, hk.2.2.2.2⟩⟩⟩, hk.2.1⟩)) hg hat) (aC hb (aE ho)))))); clear HO_11 BK311 HL316_2 BK317 HO320 HB HO_4; obtain ⟨HO_11, BK311, HL316_2, BK317, HO320, HB, HO323⟩ := n_; clear ho hb hg hat))
        go_roundg k1
        case measure => have := HK1.out; omega
        case rel => exact ⟨(y321), (wrap64 (x13_1 + 1)), rq, H', ⟨by have := HK1.out; omega⟩, ⟨by (with_reducible repeat (first | apply Kd.N_alloc | apply Kd.N_drewN | apply Kd.N_drew)); exact Kd.N_mono HO323.out (fun _ hk => ⟨hk.1, ⟨hk.2.1, hk.2.2.1⟩⟩)⟩, ⟨by (with_reducible repeat (first | apply Kd.N_alloc | apply Kd.N_drewN | apply Kd.N_drew)); exact Kd.N_mono HO_11.out (fun _ hk => ⟨hk.1.1, ⟨hk.2, hk.1.2.2.1⟩⟩)⟩, ⟨bU BK311.out⟩, ⟨bl⟩⟩
       ·rw [if_neg c15] at H
        exact absurd H (by simp)
      ·rw [if_neg c13] at H
       exact absurd H (by simp)
     ·rw [if_neg c12] at H
      exact absurd H (by simp)
    ·rw [if_neg c11] at H
     have c11b0 := decide_eq_false c11
     clear c11
     simp only [Option.some.injEq, Prod.mk.injEq] at H
     obtain ⟨rfl, rfl⟩ := H
     go_wp2
     go_ret2
     exact ⟨_, re, by (with_reducible repeat (first | apply Kd.N_alloc | apply Kd.N_drewN | apply Kd.N_drew)); exact Kd.N_mono HO_4.out (fun _ hk => hk.1), bl⟩
 ·replace c3 := Bool.eq_false_iff.mpr c3
  subst c3
  have H1 : (some (([] : List (S48)), 30)) = some (r1, r2) := by rw [if_neg (show ¬ (false = true) by decide)] at H; exact H
  clear H
  have H := H1
  clear H1
  simp only [Option.some.injEq, Prod.mk.injEq] at H
  obtain ⟨rfl, rfl⟩ := H
  go_enter Try.func32, Try.ntmps32
  go_wp2_with (first | ((with_reducible refine gd 1 rfl ?_); refine bx 1 #[.int .i64 a0_0, .int .i64 a0_1, .slice A0_2 l0_2.length c0_2] 24 rfl rfl ?_; intro gb311 hg w24 hbox hb; have n_ := aC (bs hb) (aC hbox (aC (gz hg) (aE (gz hg)))); clear HB; obtain ⟨HB, BK311, GW311, GE311⟩ := n_; clear hb hbox hg; obtain ⟨hcz25_0, hcz25_1, hcz25_2, hfz25_0, hfz25_1, hfz25_2⟩ := cz3f BK311.out) | ((with_reducible refine gf 38 rfl ?_); refine gL (some 8) rfl rfl Try.func38 rfl #[.agg #[.int .i64 a0_0, .int .i64 a0_1, .slice A0_2 l0_2.length c0_2]] rfl ?_; (with_reducible refine (bitmap_Valid.calls k a0_0 a0_1 _ _ l0_2 false _ ?side1 ?side2 A2.out).mono ?_); (case side1 => exact cU (Kd.C_below HR0_2.out HB.out)); (case side2 => exact HC0_2.out); rintro e w26 ⟨rfl, hb⟩; refine ⟨_, rfl, ?_⟩; have n_ := aC (blk_below (bU BK311.out) hb) (aE (bs hb)); clear BK311 HB; obtain ⟨BK311, HB⟩ := n_; (try clear hb)))
  go_ret2
  exact ⟨_, re, by first | exact Kd.S_nil _ _ _ _ _ | exact Kd.N_nil _ _ _ _ _ | exact Kd.V_nil _ _ _ _ _ | exact Kd.Q_nil _ _ _ _ _ | exact Kd.R_nil _ _ _ _ _, bl⟩

end Go.Proofs.Ytaflekobfbgedaa.PShapePieces
