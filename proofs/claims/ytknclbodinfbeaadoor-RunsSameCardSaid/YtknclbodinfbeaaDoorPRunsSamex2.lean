-- printed (wip/tools/myprint.py)
import Derived.Test.YtknclbodinfbeaaDoorPRunsSamex0
namespace Go.Proofs.YtknclbodinfbeaaDoor.PRunsSame
open Go.RowKit Go.Proofs.YtknclbodinfbeaaDoorW.PrintWords Go.Proofs.YtknclbodinfbeaaDoorW.PrintLast Go.Proofs.YtknclbodinfbeaaDoorW.PrintMore
attribute [local go_sem] yf yc yD yE xV xU ye yh
set_option linter.unusedVariables false
set_option linter.unusedSimpArgs false
mutual
def wb.j0 : Nat → Bool → Int → Int → Int → Int → Bool → Int → Option (Int × Bool)
 | 0, _, _, _, _, _, _, _ => none
 | k + 1, x13, x134000, x134001, x134002, x134003, x135000, x135001 => if x13 = true then (if x135000 = true then (if x135001 = 0 then (some (0, (x134003 == 2))) else (some (0, false))) else (some (0, false))) else (if x135001 < (-4194304) then (wb.j1 k true x134000 x134001 x134002 x134003 x135000 x135001) else (wb.j1 k (decide (x135001 > 4194304)) x134000 x134001 x134002 x134003 x135000 x135001))
def wb.j1 : Nat → Bool → Int → Int → Int → Int → Bool → Int → Option (Int × Bool)
 | 0, _, _, _, _, _, _, _ => none
 | k + 1, x33, x134000, x134001, x134002, x134003, x135000, x135001 => if x33 = true then (some (0, false)) else (if x134003 = 1 then (if (wrap64 (-(wrap64 (x135001 - x134002)))) ≥ 0 then (if 0 ≤ x134001 then (some (wrap64 (-(wrap64 (x135001 - x134002))), decide ((wrap64 (-(wrap64 (x135001 - x134002)))) < (shl .i64 1 x134001)))) else (none)) else (some (wrap64 (-(wrap64 (x135001 - x134002))), false))) else (if (wrap64 (x135001 - x134002)) ≥ 0 then (if 0 ≤ x134001 then (some (wrap64 (x135001 - x134002), decide ((wrap64 (x135001 - x134002)) < (shl .i64 1 x134001)))) else (none)) else (some (wrap64 (x135001 - x134002), false))))
end
def wb.f (k : Nat) (a0_0 : Int) (a0_1 : Int) (a0_2 : Int) (a0_3 : Int) (a1_0 : Bool) (a1_1 : Int) : Option (Int × Bool) := if a1_0 = true then (wb.j0 k true a0_0 a0_1 a0_2 a0_3 a1_0 a1_1) else (wb.j0 k (a0_3 == 2) a0_0 a0_1 a0_2 a0_3 a1_0 a1_1)
theorem wb.wj : ∀ k, (∀ y0 y1 y2 y3 y4 y5 y6, vP (wb.j0 k y0 y1 y2 y3 y4 y5 y6) (wb.j0 (k + 1) y0 y1 y2 y3 y4 y5 y6)) ∧ (∀ y0 y1 y2 y3 y4 y5 y6, vP (wb.j1 k y0 y1 y2 y3 y4 y5 y6) (wb.j1 (k + 1) y0 y1 y2 y3 y4 y5 y6))
 | 0 => ⟨fun _ _ _ _ _ _ _ r h => by simp [wb.j0] at h, fun _ _ _ _ _ _ _ r h => by simp [wb.j1] at h⟩
 | k + 1 => by
  obtain ⟨ih0, ih1⟩ := wb.wj k
  refine ⟨?_, ?_⟩
  ·intro y0 y1 y2 y3 y4 y5 y6
   unfold wb.j0
   repeat' first
   | (with_reducible exact ih0 _ _ _ _ _ _ _)
   | (with_reducible exact ih1 _ _ _ _ _ _ _)
   | (with_reducible first | exact vP.refl _ | exact vP.none _ | apply vP.ite | refine vP.bind ?_ fun _ => ?_)
  ·intro y0 y1 y2 y3 y4 y5 y6
   unfold wb.j1
   repeat' first
   | (with_reducible exact ih0 _ _ _ _ _ _ _)
   | (with_reducible exact ih1 _ _ _ _ _ _ _)
   | (with_reducible first | exact vP.refl _ | exact vP.none _ | apply vP.ite | refine vP.bind ?_ fun _ => ?_)
theorem wb.mono : ∀ a0 a1 a2 a3 a4 a5 k, vP (wb.f k a0 a1 a2 a3 a4 a5) (wb.f (k + 1) a0 a1 a2 a3 a4 a5) := by
 intro a0 a1 a2 a3 a4 a5 k
 obtain ⟨ih0, ih1⟩ := wb.wj k
 unfold wb.f
 repeat' first
   | (with_reducible exact ih0 _ _ _ _ _ _ _)
   | (with_reducible exact ih1 _ _ _ _ _ _ _)
   | (with_reducible first | exact vP.refl _ | exact vP.none _ | apply vP.ite | refine vP.bind ?_ fun _ => ?_)
set_option maxHeartbeats 8000000 in
set_option maxRecDepth 100000 in
theorem wb.calls (k : Nat) (a0_0 : Int) (a0_1 : Int) (a0_2 : Int) (a0_3 : Int) (a1_0 : Bool) (a1_1 : Int) (r1 : Int) (r2 : Bool) (w : World) (h : wb.f k a0_0 a0_1 a0_2 a0_3 a1_0 a1_1 = some (r1, r2)) :
  Calls Tryd.prog 120 #[.agg #[.int .i64 a0_0, .int .i64 a0_1, .int .i64 a0_2, .int .i64 a0_3], .agg #[.bool a1_0, .int .i64 a1_1]] w fun e w' => e = .returned (.tuple #[.int .i64 r1, .bool r2]) ∧ Below w.heap.size w w' := by
 have hu87 := Tryd.underlying87
 have hu64 := Tryd.underlying64
 have HB := Aside0.mk (Below.refl w.heap.size w)
 have H := h
 unfold wb.f at H
 clear h
 have HC3 := Aside0.mk H
 clear H
 go_enter Tryd.func120, Tryd.ntmps120
 go_upto_region 1 with (first | ((with_reducible refine gd 2 rfl ?_); refine bx 2 #[.int .i64 a0_0, .int .i64 a0_1, .int .i64 a0_2, .int .i64 a0_3] 87 rfl rfl ?_; intro gb133 hg w4 hbox hb; have n_ := aC (bs hb) (aC hbox (aC (gz hg) (aE (gz hg)))); clear HB; obtain ⟨HB, BK133, GW133, GE133⟩ := n_; clear hb hbox hg) | ((with_reducible refine gd 3 rfl ?_); refine bx 3 #[.bool a1_0, .int .i64 a1_1] 64 rfl rfl ?_; intro gb134 hg w5 hbox hb; have n_ := aC (vu (bU BK133.out) hb) (aC (bs hb) (aC hbox (aC (gz hg) (aC (gz hg) (aC (gn hg (bU BK133.out)) (aE (gm hg (bU BK133.out)))))))); clear BK133 HB; obtain ⟨BK133, HB, BK134, GW134, GE134, NB133_134, NB134_133⟩ := n_; clear hb hbox hg))
 (try simp only [Act.put, List.setIfInBounds_toArray, List.set_cons_zero, List.set_cons_succ])
 go_cut [13] (fun v13 wc => ∃ (kq : Nat) (x13_2 : Bool), v13 = .bool x13_2 ∧ Aside0 (wb.j0 kq x13_2 a0_0 a0_1 a0_2 a0_3 a1_0 a1_1 = some (r1, r2)) ∧ Aside0 (kq ≤ k) ∧ Aside0 (wc.heap[gb133]? = some (.cells #[.int .i64 a0_0, .int .i64 a0_1, .int .i64 a0_2, .int .i64 a0_3] 87 (0, 0))) ∧ Aside0 (wc.heap[gb134]? = some (.cells #[.bool a1_0, .int .i64 a1_1] 64 (0, 0))) ∧ Aside0 (Below w.heap.size w wc))
 case first =>
  have H := HC3.out
  clear HC3
  by_cases c6 : a1_0 = true
  ·subst c6
   rw [if_pos rfl] at H
   have H' := Aside0.mk H
   clear H
   have hnb7 := NB134_133.out
   have hnc7 := NB133_134.out
   obtain ⟨hcz8_0, hcz8_1, hfz8_0, hfz8_1⟩ := yt BK134.out
   go_wp2
   go_meet
   case rel => exact ⟨_, (true), rq, H', ⟨by first | omega | exact Nat.le_refl _⟩, ⟨bU BK133.out⟩, ⟨bU BK134.out⟩, ⟨bl⟩⟩
  ·replace c6 := Bool.eq_false_iff.mpr c6
   subst c6
   rw [if_neg Bool.false_ne_true] at H
   have H' := Aside0.mk H
   clear H
   have hnb9 := NB134_133.out
   have hnc9 := NB133_134.out
   obtain ⟨hcz10_0, hcz10_1, hfz10_0, hfz10_1⟩ := yt BK134.out
   obtain ⟨hcz11_0, hcz11_1, hcz11_2, hcz11_3, hfz11_0, hfz11_1, hfz11_2, hfz11_3⟩ := xC BK133.out
   go_wp2
   go_meet
   case rel => exact ⟨_, ((a0_3 == 2)), rq, H', ⟨by first | omega | exact Nat.le_refl _⟩, ⟨bU BK133.out⟩, ⟨bU BK134.out⟩, ⟨bl⟩⟩
 case rest =>
  clear HC3
  obtain ⟨kq, x13_2, rfl, HA, HJ2, BK133, BK134, HB⟩ := hcut
  cases kq with
  | zero => exact absurd HA.out (by simp [wb.j0])
  | succ kj2 =>
   have H := HA.out
   clear HA
   simp only [wb.j0] at H
   by_cases c12 : x13_2 = true
   ·subst c12
    rw [if_pos rfl] at H
    by_cases c13 : a1_0 = true
    ·subst c13
     rw [if_pos rfl] at H
     rcases iE H with H1 | H1 <;> clear H <;> obtain ⟨H, c14b0, c14b1, c14⟩ := H1
     ·simp only [Option.some.injEq, Prod.mk.injEq] at H
      obtain ⟨rfl, rfl⟩ := H
      have hnb15 := NB134_133.out
      have hnc15 := NB133_134.out
      obtain ⟨hcz16_0, hcz16_1, hfz16_0, hfz16_1⟩ := yt BK134.out
      obtain ⟨hcz17_0, hcz17_1, hcz17_2, hcz17_3, hfz17_0, hfz17_1, hfz17_2, hfz17_3⟩ := xC BK133.out
      go_wp2
      repeat (go_quiet (fail); try go_wp2)
      go_ret2
      exact ⟨re, bl⟩
     ·simp only [Option.some.injEq, Prod.mk.injEq] at H
      obtain ⟨rfl, rfl⟩ := H
      have hnb18 := NB134_133.out
      have hnc18 := NB133_134.out
      obtain ⟨hcz19_0, hcz19_1, hfz19_0, hfz19_1⟩ := yt BK134.out
      go_wp2
      repeat (go_quiet (fail); try go_wp2)
      go_ret2
      exact ⟨re, bl⟩
    ·replace c13 := Bool.eq_false_iff.mpr c13
     subst c13
     rw [if_neg Bool.false_ne_true] at H
     simp only [Option.some.injEq, Prod.mk.injEq] at H
     obtain ⟨rfl, rfl⟩ := H
     have hnb20 := NB134_133.out
     have hnc20 := NB133_134.out
     obtain ⟨hcz21_0, hcz21_1, hfz21_0, hfz21_1⟩ := yt BK134.out
     go_wp2
     repeat (go_quiet (fail); try go_wp2)
     go_ret2
     exact ⟨re, bl⟩
   ·replace c12 := Bool.eq_false_iff.mpr c12
    subst c12
    rw [if_neg Bool.false_ne_true] at H
    have HC22 := Aside0.mk H
    clear H
    go_upto_region 3 with (fail)
    go_cut [33] (fun v33 wc => ∃ (kq : Nat) (x33_21 : Bool), v33 = .bool x33_21 ∧ Aside0 (wb.j1 kq x33_21 a0_0 a0_1 a0_2 a0_3 a1_0 a1_1 = some (r1, r2)) ∧ Aside0 (kq ≤ kj2) ∧ Aside0 (wc.heap[gb133]? = some (.cells #[.int .i64 a0_0, .int .i64 a0_1, .int .i64 a0_2, .int .i64 a0_3] 87 (0, 0))) ∧ Aside0 (wc.heap[gb134]? = some (.cells #[.bool a1_0, .int .i64 a1_1] 64 (0, 0))) ∧ Aside0 (Below w.heap.size w wc))
    case first =>
     have H := HC22.out
     clear HC22
     rcases iL H with H1 | H1 <;> clear H <;> obtain ⟨H, c23b0⟩ := H1
     ·(first | rw [c23b0] | (simp only [xD, zm]; rw [c23b0]) | skip)
      have H' := Aside0.mk H
      clear H
      have hnb24 := NB134_133.out
      have hnc24 := NB133_134.out
      obtain ⟨hcz25_0, hcz25_1, hfz25_0, hfz25_1⟩ := yt BK134.out
      go_wp2
      go_meet
      case rel => exact ⟨_, (true), rq, H', ⟨by have := HJ2.out; first | omega | exact Nat.le_refl _⟩, ⟨bU BK133.out⟩, ⟨bU BK134.out⟩, ⟨bl⟩⟩
     ·(first | rw [c23b0] | (simp only [xD, zm]; rw [c23b0]) | skip)
      have H' := Aside0.mk H
      clear H
      have hnb26 := NB134_133.out
      have hnc26 := NB133_134.out
      obtain ⟨hcz27_0, hcz27_1, hfz27_0, hfz27_1⟩ := yt BK134.out
      go_wp2
      go_meet
      case rel => exact ⟨_, (decide (a1_1 > 4194304)), rq, H', ⟨by have := HJ2.out; first | omega | exact Nat.le_refl _⟩, ⟨bU BK133.out⟩, ⟨bU BK134.out⟩, ⟨bl⟩⟩
    case rest =>
     clear HC22
     obtain ⟨kq, x33_21, rfl, HA, HJ21, BK133, BK134, HB⟩ := hcut
     cases kq with
     | zero => exact absurd HA.out (by simp [wb.j1])
     | succ kj21 =>
      have H := HA.out
      clear HA
      simp only [wb.j1] at H
      by_cases c28 : x33_21 = true
      ·subst c28
       rw [if_pos rfl] at H
       simp only [Option.some.injEq, Prod.mk.injEq] at H
       obtain ⟨rfl, rfl⟩ := H
       go_wp2
       go_ret2
       exact ⟨re, bl⟩
      ·replace c28 := Bool.eq_false_iff.mpr c28
       subst c28
       rw [if_neg Bool.false_ne_true] at H
       rcases iE H with H1 | H1 <;> clear H <;> obtain ⟨H, c29b0, c29b1, c29⟩ := H1
       ·rcases iL H with H1 | H1 <;> clear H <;> obtain ⟨H, c30b0⟩ := H1
        ·by_cases c31 : 0 ≤ a0_1
         ·rw [if_pos c31] at H
          have c31b0 := eq_true c31
          have c31b1 := decide_eq_true c31
          clear c31
          obtain ⟨ji32, hji32⟩ : ∃ j_ : Int, (shl .i64 1 a0_1) = j_ := ⟨_, rfl⟩
          replace H : (some (wrap64 (-(wrap64 (a1_1 - a0_2))), decide ((wrap64 (-(wrap64 (a1_1 - a0_2)))) < (ji32)))) = some (r1, r2) := by first | (rw [hji32] at H; exact H) | (simp only [hji32] at H ⊢; exact H)
          have hji32_ : (IntKind.i64.wrap (1 * 2 ^ min a0_1.toNat 64)) = ji32 := hji32
          have hji32z : a0_1 ≤ 64 → (IntKind.i64.wrap (1 * 2 ^ a0_1.toNat)) = ji32 := zv hji32
          have hji32u : (IntKind.i64.wrap (2 ^ min a0_1.toNat 64)) = ji32 := by have h_ := hji32_; rw [Int.one_mul] at h_; exact h_
          have hji32v : a0_1 ≤ 64 → (IntKind.i64.wrap (2 ^ a0_1.toNat)) = ji32 := fun hle_ => by have h_ := hji32z hle_; rw [Int.one_mul] at h_; exact h_
          have hji32y : (wrap64 (1 * 2 ^ min a0_1.toNat 64)) = ji32 := (xD _).symm.trans hji32_
          have hji32x : a0_1 ≤ 64 → (wrap64 (1 * 2 ^ a0_1.toNat)) = ji32 := fun h_ => (xD _).symm.trans (hji32z h_)
          simp only [Option.some.injEq, Prod.mk.injEq] at H
          obtain ⟨rfl, rfl⟩ := H
          have hnb33 := NB134_133.out
          have hnc33 := NB133_134.out
          obtain ⟨hcz34_0, hcz34_1, hfz34_0, hfz34_1⟩ := yt BK134.out
          obtain ⟨hcz35_0, hcz35_1, hcz35_2, hcz35_3, hfz35_0, hfz35_1, hfz35_2, hfz35_3⟩ := xC BK133.out
          go_wp2
          repeat (go_quiet (fail); try go_wp2)
          go_ret2
          exact ⟨by first | rfl | (simp [wL, wK] <;> rfl) | (simp only [← hji32]; first | rfl | (simp [wL, wK] <;> rfl)) | (simp [*, wL, wK] <;> rfl), bl⟩
         ·rw [if_neg c31] at H
          exact absurd H (by simp)
        ·simp only [Option.some.injEq, Prod.mk.injEq] at H
         obtain ⟨rfl, rfl⟩ := H
         have hnb36 := NB134_133.out
         have hnc36 := NB133_134.out
         obtain ⟨hcz37_0, hcz37_1, hfz37_0, hfz37_1⟩ := yt BK134.out
         obtain ⟨hcz38_0, hcz38_1, hcz38_2, hcz38_3, hfz38_0, hfz38_1, hfz38_2, hfz38_3⟩ := xC BK133.out
         go_wp2
         repeat (go_quiet (fail); try go_wp2)
         go_ret2
         exact ⟨re, bl⟩
       ·rcases iL H with H1 | H1 <;> clear H <;> obtain ⟨H, c39b0⟩ := H1
        ·by_cases c40 : 0 ≤ a0_1
         ·rw [if_pos c40] at H
          have c40b0 := eq_true c40
          have c40b1 := decide_eq_true c40
          clear c40
          obtain ⟨ji41, hji41⟩ : ∃ j_ : Int, (shl .i64 1 a0_1) = j_ := ⟨_, rfl⟩
          replace H : (some (wrap64 (a1_1 - a0_2), decide ((wrap64 (a1_1 - a0_2)) < (ji41)))) = some (r1, r2) := by first | (rw [hji41] at H; exact H) | (simp only [hji41] at H ⊢; exact H)
          have hji41_ : (IntKind.i64.wrap (1 * 2 ^ min a0_1.toNat 64)) = ji41 := hji41
          have hji41z : a0_1 ≤ 64 → (IntKind.i64.wrap (1 * 2 ^ a0_1.toNat)) = ji41 := zv hji41
          have hji41u : (IntKind.i64.wrap (2 ^ min a0_1.toNat 64)) = ji41 := by have h_ := hji41_; rw [Int.one_mul] at h_; exact h_
          have hji41v : a0_1 ≤ 64 → (IntKind.i64.wrap (2 ^ a0_1.toNat)) = ji41 := fun hle_ => by have h_ := hji41z hle_; rw [Int.one_mul] at h_; exact h_
          have hji41y : (wrap64 (1 * 2 ^ min a0_1.toNat 64)) = ji41 := (xD _).symm.trans hji41_
          have hji41x : a0_1 ≤ 64 → (wrap64 (1 * 2 ^ a0_1.toNat)) = ji41 := fun h_ => (xD _).symm.trans (hji41z h_)
          simp only [Option.some.injEq, Prod.mk.injEq] at H
          obtain ⟨rfl, rfl⟩ := H
          have hnb42 := NB134_133.out
          have hnc42 := NB133_134.out
          obtain ⟨hcz43_0, hcz43_1, hfz43_0, hfz43_1⟩ := yt BK134.out
          obtain ⟨hcz44_0, hcz44_1, hcz44_2, hcz44_3, hfz44_0, hfz44_1, hfz44_2, hfz44_3⟩ := xC BK133.out
          go_wp2
          repeat (go_quiet (fail); try go_wp2)
          go_ret2
          exact ⟨by first | rfl | (simp [wL, wK] <;> rfl) | (simp only [← hji41]; first | rfl | (simp [wL, wK] <;> rfl)) | (simp [*, wL, wK] <;> rfl), bl⟩
         ·rw [if_neg c40] at H
          exact absurd H (by simp)
        ·simp only [Option.some.injEq, Prod.mk.injEq] at H
         obtain ⟨rfl, rfl⟩ := H
         have hnb45 := NB134_133.out
         have hnc45 := NB133_134.out
         obtain ⟨hcz46_0, hcz46_1, hfz46_0, hfz46_1⟩ := yt BK134.out
         obtain ⟨hcz47_0, hcz47_1, hcz47_2, hcz47_3, hfz47_0, hfz47_1, hfz47_2, hfz47_3⟩ := xC BK133.out
         go_wp2
         repeat (go_quiet (fail); try go_wp2)
         go_ret2
         exact ⟨re, bl⟩
def xj.l0 : Nat → List (xc) → Int → Int → List (xc) → Int → Int → Bool → Int → Option (Int × Int)
 | 0, _, _, _, _, _, _, _, _ => none
 | k + 1, x0, x4, x5, x10, x11, x12, x136000, x136001 => if x12 < x11 then (if 0 ≤ x12 then (if x12 < (x10.length : Int) then ((wb.f k ((vk x10 x12).f0) ((vk x10 x12).f1) ((vk x10 x12).f2) ((vk x10 x12).f3) x136000 x136001).bind fun bt138 => (if bt138.2 = true then (if ((vk x10 x12).f0) > 0 then (if x4 < 0 then (xj.l0 k x0 x12 bt138.1 x10 x11 (wrap64 (x12 + 1)) x136000 x136001) else (if 0 ≤ x4 then (if x4 < (x0.length : Int) then (if (wrap64 (((vk x10 x12).f0) + ((vk x10 x12).f1))) < (wrap64 (((vk x0 x4).f0) + ((vk x0 x4).f1))) then (xj.l0 k x0 x12 bt138.1 x10 x11 (wrap64 (x12 + 1)) x136000 x136001) else (xj.l0 k x0 x4 x5 x10 x11 (wrap64 (x12 + 1)) x136000 x136001)) else (none)) else (none))) else (xj.l0 k x0 x4 x5 x10 x11 (wrap64 (x12 + 1)) x136000 x136001)) else (xj.l0 k x0 x4 x5 x10 x11 (wrap64 (x12 + 1)) x136000 x136001))) else (none)) else (none)) else (some (x4, x5))
def xj.f (k : Nat) (l0 : List (xc)) (a1_0 : Bool) (a1_1 : Int) : Option (Int × Int) := xj.l0 k l0 (-1) 0 l0 (l0.length : Int) 0 a1_0 a1_1
theorem xj.wj : ∀ k, (∀ y0 y1 y2 y3 y4 y5 y6 y7, vP (xj.l0 k y0 y1 y2 y3 y4 y5 y6 y7) (xj.l0 (k + 1) y0 y1 y2 y3 y4 y5 y6 y7))
 | 0 => fun _ _ _ _ _ _ _ _ r h => by simp [xj.l0] at h
 | k + 1 => by
  have ih0 := xj.wj k
  ·intro y0 y1 y2 y3 y4 y5 y6 y7
   unfold xj.l0
   repeat' first
   | (with_reducible exact ih0 _ _ _ _ _ _ _ _)
   | (with_reducible exact wb.mono _ _ _ _ _ _ _)
   | (with_reducible first | exact vP.refl _ | exact vP.none _ | apply vP.ite | refine vP.bind ?_ fun _ => ?_)
theorem xj.mono : ∀ a0 a1 a2 k, vP (xj.f k a0 a1 a2) (xj.f (k + 1) a0 a1 a2) := by
 intro a0 a1 a2 k
 have ih0 := xj.wj k
 unfold xj.f
 repeat' first
   | (with_reducible exact ih0 _ _ _ _ _ _ _ _)
   | (with_reducible exact wb.mono _ _ _ _ _ _ _)
   | (with_reducible first | exact vP.refl _ | exact vP.none _ | apply vP.ite | refine vP.bind ?_ fun _ => ?_)
set_option maxHeartbeats 8000000 in
set_option maxRecDepth 100000 in
theorem xj.calls (k : Nat) (A0 : Option Addr) (c0 : Nat) (l0 : List (xc)) (a1_0 : Bool) (a1_1 : Int) (r1 : Int) (r2 : Int) (w : World) (hr0 : Kd.C zh w A0 l0.length l0) (hc0 : l0.length ≤ c0) (h : xj.f k l0 a1_0 a1_1 = some (r1, r2)) :
  Calls Tryd.prog 107 #[.slice A0 l0.length c0, .agg #[.bool a1_0, .int .i64 a1_1]] w fun e w' => e = .returned (.tuple #[.int .i64 r1, .int .i64 r2]) ∧ Below w.heap.size w w' := by
 have hu64 := Tryd.underlying64
 have hu87 := Tryd.underlying87
 have HR0 := Aside0.mk hr0
 have HC0 := Aside0.mk hc0
 clear hr0 hc0
 have HB := Aside0.mk (Below.refl w.heap.size w)
 have H : (xj.l0 k l0 (-1) 0 l0 (l0.length : Int) 0 a1_0 a1_1) = some (r1, r2) := h
 clear h
 have H' := Aside0.mk H
 clear H
 go_enter Tryd.func107, Tryd.ntmps107
 go_wp2_with (first | ((with_reducible refine gd 3 rfl ?_); refine bx 3 #[.bool a1_0, .int .i64 a1_1] 64 rfl rfl ?_; intro gb135 hg w3 hbox hb; have n_ := aC (bs hb) (aC hbox (aC (gz hg) (aE (gz hg)))); clear HB; obtain ⟨HB, BK135, GW135, GE135⟩ := n_; clear hb hbox hg))
 go_loopg [4, 5, 12] k (fun kq v4 v5 v12 w' => ∃ (x4_1 : Int) (x5_1 : Int) (x12_1 : Int), v4 = .int .i64 x4_1 ∧ v5 = .int .i64 x5_1 ∧ v12 = .int .i64 x12_1 ∧ Aside0 (xj.l0 kq l0 x4_1 x5_1 l0 (l0.length : Int) x12_1 a1_0 a1_1 = some (r1, r2)) ∧ Aside0 (kq ≤ k) ∧ Aside0 (w'.heap[gb135]? = some (.cells #[.bool a1_0, .int .i64 a1_1] 64 (0, 0))) ∧ Aside0 (Below w.heap.size w w'))
 case atStart => exact ⟨((-1)), (0), (0), rq, rq, rq, H', ⟨Nat.le_refl _⟩, ⟨bU BK135.out⟩, ⟨bl⟩⟩
 case round =>
  clear H'
  obtain ⟨x4_1, x5_1, x12_1, rfl, rfl, rfl, HA, HK1, BK135, HB⟩ := hrel
  cases gk with
  | zero => exact absurd HA.out (by simp [xj.l0])
  | succ k1 =>
   have H := HA.out
   clear HA
   simp only [xj.l0] at H
   rcases iL H with H1 | H1 <;> clear H <;> obtain ⟨H, c4b0⟩ := H1
   ·by_cases c5 : 0 ≤ x12_1
    ·rw [if_pos c5] at H
     have c5b0 := decide_eq_true c5
     clear c5
     by_cases c6 : x12_1 < (l0.length : Int)
     ·rw [if_pos c6] at H
      have c6b0 := decide_eq_true c6
      clear c6
      obtain ⟨⟨t138, t139⟩, A7, H⟩ := oB H
      try dsimp only at H
      by_cases c8 : t139 = true
      ·subst c8
       rw [if_pos rfl] at H
       rcases iL H with H1 | H1 <;> clear H <;> obtain ⟨H, c9b0⟩ := H1
       ·rcases iL H with H1 | H1 <;> clear H <;> obtain ⟨H, c10b0⟩ := H1
        ·have H' := Aside0.mk H
         clear H
         have p136 : 0 ≤ (x12_1 : Int) := dt
         have q136 : x12_1 < (l0.length : Int) := dt
         obtain ⟨ad136, e136, hx136_0, hx136_1, hx136_2, hx136_3⟩ := xw HR0.out x12_1 p136 q136
         cases e136
         replace hx136_0 := hcB HB.out hx136_0
         replace hx136_1 := hcB HB.out hx136_1
         replace hx136_2 := hcB HB.out hx136_2
         replace hx136_3 := hcB HB.out hx136_3
         replace p136 := eq_true p136
         replace q136 := eq_true q136
         go_wp2_with (first | ((with_reducible refine gd 7 rfl ?_); refine bx 7 #[.int .i64 0, .int .i64 0, .int .i64 0, .int .i64 0] 87 rfl rfl ?_; intro gb137 hg w11 hbox hb; have n_ := aC (vu (bU BK135.out) hb) (aC (bs hb) (aC hbox (aC (gz hg) (aC (gz hg) (aC (gn hg (bU BK135.out)) (aE (gm hg (bU BK135.out)))))))); clear BK135 HB; obtain ⟨BK135, HB, BK137, GW137, GE137, NB135_137, NB137_135⟩ := n_; clear hb hbox hg; have hnb12 := NB137_135.out; have hnc12 := NB135_137.out; obtain ⟨hcz13_0, hcz13_1, hcz13_2, hcz13_3, hfz13_0, hfz13_1, hfz13_2, hfz13_3⟩ := xC BK137.out; obtain ⟨hcz14_0, hcz14_1, hfz14_0, hfz14_1⟩ := yt BK135.out) | (go_at_call 120; (with_reducible refine (wb.calls k1 ((vk l0 x12_1).f0) ((vk l0 x12_1).f1) ((vk l0 x12_1).f2) ((vk l0 x12_1).f3) a1_0 a1_1 t138 true _ A7.out).mono ?_); rintro e w15 ⟨rfl, hb⟩; have n_ := aC (vu (g := gb135) (o := .cells #[.bool a1_0, .int .i64 a1_1] 64 (0, 0)) (by (with_reducible repeat first | apply vl | apply vn | apply vm); refine vV ?_ NB135_137.out _; (with_reducible repeat first | apply vl | apply vn | apply vm); refine vV ?_ NB135_137.out _; (with_reducible repeat first | apply vl | apply vn | apply vm); refine vV ?_ NB135_137.out _; (with_reducible repeat first | apply vl | apply vn | apply vm); refine vV ?_ NB135_137.out _; (with_reducible repeat first | apply vl | apply vn | apply vm); exact BK135.out) hb) (aC (vu (g := gb137) (o := .cells #[.int .i64 ((vk l0 x12_1).f0), .int .i64 ((vk l0 x12_1).f1), .int .i64 ((vk l0 x12_1).f2), .int .i64 ((vk l0 x12_1).f3)] 87 (0, 0)) (by (with_reducible repeat first | apply vl | apply vn | apply vm); refine vv (cs := #[.int .i64 ((vk l0 x12_1).f0), .int .i64 ((vk l0 x12_1).f1), .int .i64 ((vk l0 x12_1).f2), .int .i64 0]) ?_ 3 _ rfl; (with_reducible repeat first | apply vl | apply vn | apply vm); refine vv (cs := #[.int .i64 ((vk l0 x12_1).f0), .int .i64 ((vk l0 x12_1).f1), .int .i64 0, .int .i64 0]) ?_ 2 _ rfl; (with_reducible repeat first | apply vl | apply vn | apply vm); refine vv (cs := #[.int .i64 ((vk l0 x12_1).f0), .int .i64 0, .int .i64 0, .int .i64 0]) ?_ 1 _ rfl; (with_reducible repeat first | apply vl | apply vn | apply vm); refine vv (cs := #[.int .i64 0, .int .i64 0, .int .i64 0, .int .i64 0]) ?_ 0 _ rfl; (with_reducible repeat first | apply vl | apply vn | apply vm); exact BK137.out) hb) (aE (bs hb))); clear BK135 BK137 HB; obtain ⟨BK135, BK137, HB⟩ := n_; obtain ⟨hcz16_0, hcz16_1, hcz16_2, hcz16_3, hfz16_0, hfz16_1, hfz16_2, hfz16_3⟩ := xC BK137.out))
         repeat (go_quiet (first | ((with_reducible refine gd 7 rfl ?_); refine bx 7 #[.int .i64 0, .int .i64 0, .int .i64 0, .int .i64 0] 87 rfl rfl ?_; intro gb137 hg w11 hbox hb; have n_ := aC (vu (bU BK135.out) hb) (aC (bs hb) (aC hbox (aC (gz hg) (aC (gz hg) (aC (gn hg (bU BK135.out)) (aE (gm hg (bU BK135.out)))))))); clear BK135 HB; obtain ⟨BK135, HB, BK137, GW137, GE137, NB135_137, NB137_135⟩ := n_; clear hb hbox hg; have hnb12 := NB137_135.out; have hnc12 := NB135_137.out; obtain ⟨hcz13_0, hcz13_1, hcz13_2, hcz13_3, hfz13_0, hfz13_1, hfz13_2, hfz13_3⟩ := xC BK137.out; obtain ⟨hcz14_0, hcz14_1, hfz14_0, hfz14_1⟩ := yt BK135.out) | (go_at_call 120; (with_reducible refine (wb.calls k1 ((vk l0 x12_1).f0) ((vk l0 x12_1).f1) ((vk l0 x12_1).f2) ((vk l0 x12_1).f3) a1_0 a1_1 t138 true _ A7.out).mono ?_); rintro e w15 ⟨rfl, hb⟩; have n_ := aC (vu (g := gb135) (o := .cells #[.bool a1_0, .int .i64 a1_1] 64 (0, 0)) (by (with_reducible repeat first | apply vl | apply vn | apply vm); refine vV ?_ NB135_137.out _; (with_reducible repeat first | apply vl | apply vn | apply vm); refine vV ?_ NB135_137.out _; (with_reducible repeat first | apply vl | apply vn | apply vm); refine vV ?_ NB135_137.out _; (with_reducible repeat first | apply vl | apply vn | apply vm); refine vV ?_ NB135_137.out _; (with_reducible repeat first | apply vl | apply vn | apply vm); exact BK135.out) hb) (aC (vu (g := gb137) (o := .cells #[.int .i64 ((vk l0 x12_1).f0), .int .i64 ((vk l0 x12_1).f1), .int .i64 ((vk l0 x12_1).f2), .int .i64 ((vk l0 x12_1).f3)] 87 (0, 0)) (by (with_reducible repeat first | apply vl | apply vn | apply vm); refine vv (cs := #[.int .i64 ((vk l0 x12_1).f0), .int .i64 ((vk l0 x12_1).f1), .int .i64 ((vk l0 x12_1).f2), .int .i64 0]) ?_ 3 _ rfl; (with_reducible repeat first | apply vl | apply vn | apply vm); refine vv (cs := #[.int .i64 ((vk l0 x12_1).f0), .int .i64 ((vk l0 x12_1).f1), .int .i64 0, .int .i64 0]) ?_ 2 _ rfl; (with_reducible repeat first | apply vl | apply vn | apply vm); refine vv (cs := #[.int .i64 ((vk l0 x12_1).f0), .int .i64 0, .int .i64 0, .int .i64 0]) ?_ 1 _ rfl; (with_reducible repeat first | apply vl | apply vn | apply vm); refine vv (cs := #[.int .i64 0, .int .i64 0, .int .i64 0, .int .i64 0]) ?_ 0 _ rfl; (with_reducible repeat first | apply vl | apply vn | apply vm); exact BK137.out) hb) (aE (bs hb))); clear BK135 BK137 HB; obtain ⟨BK135, BK137, HB⟩ := n_; obtain ⟨hcz16_0, hcz16_1, hcz16_2, hcz16_3, hfz16_0, hfz16_1, hfz16_2, hfz16_3⟩ := xC BK137.out)); try go_wp2_with (first | ((with_reducible refine gd 7 rfl ?_); refine bx 7 #[.int .i64 0, .int .i64 0, .int .i64 0, .int .i64 0] 87 rfl rfl ?_; intro gb137 hg w11 hbox hb; have n_ := aC (vu (bU BK135.out) hb) (aC (bs hb) (aC hbox (aC (gz hg) (aC (gz hg) (aC (gn hg (bU BK135.out)) (aE (gm hg (bU BK135.out)))))))); clear BK135 HB; obtain ⟨BK135, HB, BK137, GW137, GE137, NB135_137, NB137_135⟩ := n_; clear hb hbox hg; have hnb12 := NB137_135.out; have hnc12 := NB135_137.out; obtain ⟨hcz13_0, hcz13_1, hcz13_2, hcz13_3, hfz13_0, hfz13_1, hfz13_2, hfz13_3⟩ := xC BK137.out; obtain ⟨hcz14_0, hcz14_1, hfz14_0, hfz14_1⟩ := yt BK135.out) | (go_at_call 120; (with_reducible refine (wb.calls k1 ((vk l0 x12_1).f0) ((vk l0 x12_1).f1) ((vk l0 x12_1).f2) ((vk l0 x12_1).f3) a1_0 a1_1 t138 true _ A7.out).mono ?_); rintro e w15 ⟨rfl, hb⟩; have n_ := aC (vu (g := gb135) (o := .cells #[.bool a1_0, .int .i64 a1_1] 64 (0, 0)) (by (with_reducible repeat first | apply vl | apply vn | apply vm); refine vV ?_ NB135_137.out _; (with_reducible repeat first | apply vl | apply vn | apply vm); refine vV ?_ NB135_137.out _; (with_reducible repeat first | apply vl | apply vn | apply vm); refine vV ?_ NB135_137.out _; (with_reducible repeat first | apply vl | apply vn | apply vm); refine vV ?_ NB135_137.out _; (with_reducible repeat first | apply vl | apply vn | apply vm); exact BK135.out) hb) (aC (vu (g := gb137) (o := .cells #[.int .i64 ((vk l0 x12_1).f0), .int .i64 ((vk l0 x12_1).f1), .int .i64 ((vk l0 x12_1).f2), .int .i64 ((vk l0 x12_1).f3)] 87 (0, 0)) (by (with_reducible repeat first | apply vl | apply vn | apply vm); refine vv (cs := #[.int .i64 ((vk l0 x12_1).f0), .int .i64 ((vk l0 x12_1).f1), .int .i64 ((vk l0 x12_1).f2), .int .i64 0]) ?_ 3 _ rfl; (with_reducible repeat first | apply vl | apply vn | apply vm); refine vv (cs := #[.int .i64 ((vk l0 x12_1).f0), .int .i64 ((vk l0 x12_1).f1), .int .i64 0, .int .i64 0]) ?_ 2 _ rfl; (with_reducible repeat first | apply vl | apply vn | apply vm); refine vv (cs := #[.int .i64 ((vk l0 x12_1).f0), .int .i64 0, .int .i64 0, .int .i64 0]) ?_ 1 _ rfl; (with_reducible repeat first | apply vl | apply vn | apply vm); refine vv (cs := #[.int .i64 0, .int .i64 0, .int .i64 0, .int .i64 0]) ?_ 0 _ rfl; (with_reducible repeat first | apply vl | apply vn | apply vm); exact BK137.out) hb) (aE (bs hb))); clear BK135 BK137 HB; obtain ⟨BK135, BK137, HB⟩ := n_; obtain ⟨hcz16_0, hcz16_1, hcz16_2, hcz16_3, hfz16_0, hfz16_1, hfz16_2, hfz16_3⟩ := xC BK137.out)))
         go_roundg k1
         case measure => have := HK1.out; omega
         case rel => exact ⟨(x12_1), (t138), (wrap64 (x12_1 + 1)), rq, rq, rq, H', ⟨by have := HK1.out; omega⟩, ⟨bU BK135.out⟩, ⟨bl⟩⟩
        ·by_cases c17 : 0 ≤ x4_1
         ·rw [if_pos c17] at H
          have c17b0 := decide_eq_true c17
          clear c17
          by_cases c18 : x4_1 < (l0.length : Int)
          ·rw [if_pos c18] at H
           have c18b0 := decide_eq_true c18
           clear c18
           rcases iL H with H1 | H1 <;> clear H <;> obtain ⟨H, c19b0⟩ := H1
           ·have H' := Aside0.mk H
            clear H
            have p136 : 0 ≤ (x12_1 : Int) := dt
            have q136 : x12_1 < (l0.length : Int) := dt
            obtain ⟨ad136, e136, hx136_0, hx136_1, hx136_2, hx136_3⟩ := xw HR0.out x12_1 p136 q136
            cases e136
            replace hx136_0 := hcB HB.out hx136_0
            replace hx136_1 := hcB HB.out hx136_1
            replace hx136_2 := hcB HB.out hx136_2
            replace hx136_3 := hcB HB.out hx136_3
            replace p136 := eq_true p136
            replace q136 := eq_true q136
            go_wp2_with (first | ((with_reducible refine gd 7 rfl ?_); refine bx 7 #[.int .i64 0, .int .i64 0, .int .i64 0, .int .i64 0] 87 rfl rfl ?_; intro gb137 hg w20 hbox hb; have n_ := aC (vu (bU BK135.out) hb) (aC (bs hb) (aC hbox (aC (gz hg) (aC (gz hg) (aC (gn hg (bU BK135.out)) (aE (gm hg (bU BK135.out)))))))); clear BK135 HB; obtain ⟨BK135, HB, BK137, GW137, GE137, NB135_137, NB137_135⟩ := n_; clear hb hbox hg; have hnb21 := NB137_135.out; have hnc21 := NB135_137.out; obtain ⟨hcz22_0, hcz22_1, hcz22_2, hcz22_3, hfz22_0, hfz22_1, hfz22_2, hfz22_3⟩ := xC BK137.out; obtain ⟨hcz23_0, hcz23_1, hfz23_0, hfz23_1⟩ := yt BK135.out) | (go_at_call 120; (with_reducible refine (wb.calls k1 ((vk l0 x12_1).f0) ((vk l0 x12_1).f1) ((vk l0 x12_1).f2) ((vk l0 x12_1).f3) a1_0 a1_1 t138 true _ A7.out).mono ?_); rintro e w24 ⟨rfl, hb⟩; have n_ := aC (vu (g := gb135) (o := .cells #[.bool a1_0, .int .i64 a1_1] 64 (0, 0)) (by (with_reducible repeat first | apply vl | apply vn | apply vm); refine vV ?_ NB135_137.out _; (with_reducible repeat first | apply vl | apply vn | apply vm); refine vV ?_ NB135_137.out _; (with_reducible repeat first | apply vl | apply vn | apply vm); refine vV ?_ NB135_137.out _; (with_reducible repeat first | apply vl | apply vn | apply vm); refine vV ?_ NB135_137.out _; (with_reducible repeat first | apply vl | apply vn | apply vm); exact BK135.out) hb) (aC (vu (g := gb137) (o := .cells #[.int .i64 ((vk l0 x12_1).f0), .int .i64 ((vk l0 x12_1).f1), .int .i64 ((vk l0 x12_1).f2), .int .i64 ((vk l0 x12_1).f3)] 87 (0, 0)) (by (with_reducible repeat first | apply vl | apply vn | apply vm); refine vv (cs := #[.int .i64 ((vk l0 x12_1).f0), .int .i64 ((vk l0 x12_1).f1), .int .i64 ((vk l0 x12_1).f2), .int .i64 0]) ?_ 3 _ rfl; (with_reducible repeat first | apply vl | apply vn | apply vm); refine vv (cs := #[.int .i64 ((vk l0 x12_1).f0), .int .i64 ((vk l0 x12_1).f1), .int .i64 0, .int .i64 0]) ?_ 2 _ rfl; (with_reducible repeat first | apply vl | apply vn | apply vm); refine vv (cs := #[.int .i64 ((vk l0 x12_1).f0), .int .i64 0, .int .i64 0, .int .i64 0]) ?_ 1 _ rfl; (with_reducible repeat first | apply vl | apply vn | apply vm); refine vv (cs := #[.int .i64 0, .int .i64 0, .int .i64 0, .int .i64 0]) ?_ 0 _ rfl; (with_reducible repeat first | apply vl | apply vn | apply vm); exact BK137.out) hb) (aE (bs hb))); clear BK135 BK137 HB; obtain ⟨BK135, BK137, HB⟩ := n_; obtain ⟨hcz25_0, hcz25_1, hcz25_2, hcz25_3, hfz25_0, hfz25_1, hfz25_2, hfz25_3⟩ := xC BK137.out; have p140 : 0 ≤ (x4_1 : Int) := dt; have q140 : x4_1 < (l0.length : Int) := dt; obtain ⟨ad140, e140, hx140_0, hx140_1, hx140_2, hx140_3⟩ := xw HR0.out x4_1 p140 q140; obtain rfl : ad136 = ad140 := (by injection e140); replace hx140_0 := hcB HB.out hx140_0; replace hx140_1 := hcB HB.out hx140_1; replace hx140_2 := hcB HB.out hx140_2; replace hx140_3 := hcB HB.out hx140_3; replace p140 := eq_true p140; replace q140 := eq_true q140; have p141 : 0 ≤ (x4_1 : Int) := dt; have q141 : x4_1 < (l0.length : Int) := dt; obtain ⟨ad141, e141, hx141_0, hx141_1, hx141_2, hx141_3⟩ := xw HR0.out x4_1 p141 q141; obtain rfl : ad136 = ad141 := (by injection e141); replace hx141_0 := hcB HB.out hx141_0; replace hx141_1 := hcB HB.out hx141_1; replace hx141_2 := hcB HB.out hx141_2; replace hx141_3 := hcB HB.out hx141_3; replace p141 := eq_true p141; replace q141 := eq_true q141))
            repeat (go_quiet (first | ((with_reducible refine gd 7 rfl ?_); refine bx 7 #[.int .i64 0, .int .i64 0, .int .i64 0, .int .i64 0] 87 rfl rfl ?_; intro gb137 hg w20 hbox hb; have n_ := aC (vu (bU BK135.out) hb) (aC (bs hb) (aC hbox (aC (gz hg) (aC (gz hg) (aC (gn hg (bU BK135.out)) (aE (gm hg (bU BK135.out)))))))); clear BK135 HB; obtain ⟨BK135, HB, BK137, GW137, GE137, NB135_137, NB137_135⟩ := n_; clear hb hbox hg; have hnb21 := NB137_135.out; have hnc21 := NB135_137.out; obtain ⟨hcz22_0, hcz22_1, hcz22_2, hcz22_3, hfz22_0, hfz22_1, hfz22_2, hfz22_3⟩ := xC BK137.out; obtain ⟨hcz23_0, hcz23_1, hfz23_0, hfz23_1⟩ := yt BK135.out) | (go_at_call 120; (with_reducible refine (wb.calls k1 ((vk l0 x12_1).f0) ((vk l0 x12_1).f1) ((vk l0 x12_1).f2) ((vk l0 x12_1).f3) a1_0 a1_1 t138 true _ A7.out).mono ?_); rintro e w24 ⟨rfl, hb⟩; have n_ := aC (vu (g := gb135) (o := .cells #[.bool a1_0, .int .i64 a1_1] 64 (0, 0)) (by (with_reducible repeat first | apply vl | apply vn | apply vm); refine vV ?_ NB135_137.out _; (with_reducible repeat first | apply vl | apply vn | apply vm); refine vV ?_ NB135_137.out _; (with_reducible repeat first | apply vl | apply vn | apply vm); refine vV ?_ NB135_137.out _; (with_reducible repeat first | apply vl | apply vn | apply vm); refine vV ?_ NB135_137.out _; (with_reducible repeat first | apply vl | apply vn | apply vm); exact BK135.out) hb) (aC (vu (g := gb137) (o := .cells #[.int .i64 ((vk l0 x12_1).f0), .int .i64 ((vk l0 x12_1).f1), .int .i64 ((vk l0 x12_1).f2), .int .i64 ((vk l0 x12_1).f3)] 87 (0, 0)) (by (with_reducible repeat first | apply vl | apply vn | apply vm); refine vv (cs := #[.int .i64 ((vk l0 x12_1).f0), .int .i64 ((vk l0 x12_1).f1), .int .i64 ((vk l0 x12_1).f2), .int .i64 0]) ?_ 3 _ rfl; (with_reducible repeat first | apply vl | apply vn | apply vm); refine vv (cs := #[.int .i64 ((vk l0 x12_1).f0), .int .i64 ((vk l0 x12_1).f1), .int .i64 0, .int .i64 0]) ?_ 2 _ rfl; (with_reducible repeat first | apply vl | apply vn | apply vm); refine vv (cs := #[.int .i64 ((vk l0 x12_1).f0), .int .i64 0, .int .i64 0, .int .i64 0]) ?_ 1 _ rfl; (with_reducible repeat first | apply vl | apply vn | apply vm); refine vv (cs := #[.int .i64 0, .int .i64 0, .int .i64 0, .int .i64 0]) ?_ 0 _ rfl; (with_reducible repeat first | apply vl | apply vn | apply vm); exact BK137.out) hb) (aE (bs hb))); clear BK135 BK137 HB; obtain ⟨BK135, BK137, HB⟩ := n_; obtain ⟨hcz25_0, hcz25_1, hcz25_2, hcz25_3, hfz25_0, hfz25_1, hfz25_2, hfz25_3⟩ := xC BK137.out; have p140 : 0 ≤ (x4_1 : Int) := dt; have q140 : x4_1 < (l0.length : Int) := dt; obtain ⟨ad140, e140, hx140_0, hx140_1, hx140_2, hx140_3⟩ := xw HR0.out x4_1 p140 q140; obtain rfl : ad136 = ad140 := (by injection e140); replace hx140_0 := hcB HB.out hx140_0; replace hx140_1 := hcB HB.out hx140_1; replace hx140_2 := hcB HB.out hx140_2; replace hx140_3 := hcB HB.out hx140_3; replace p140 := eq_true p140; replace q140 := eq_true q140; have p141 : 0 ≤ (x4_1 : Int) := dt; have q141 : x4_1 < (l0.length : Int) := dt; obtain ⟨ad141, e141, hx141_0, hx141_1, hx141_2, hx141_3⟩ := xw HR0.out x4_1 p141 q141; obtain rfl : ad136 = ad141 := (by injection e141); replace hx141_0 := hcB HB.out hx141_0; replace hx141_1 := hcB HB.out hx141_1; replace hx141_2 := hcB HB.out hx141_2; replace hx141_3 := hcB HB.out hx141_3; replace p141 := eq_true p141; replace q141 := eq_true q141)); try go_wp2_with (first | ((with_reducible refine gd 7 rfl ?_); refine bx 7 #[.int .i64 0, .int .i64 0, .int .i64 0, .int .i64 0] 87 rfl rfl ?_; intro gb137 hg w20 hbox hb; have n_ := aC (vu (bU BK135.out) hb) (aC (bs hb) (aC hbox (aC (gz hg) (aC (gz hg) (aC (gn hg (bU BK135.out)) (aE (gm hg (bU BK135.out)))))))); clear BK135 HB; obtain ⟨BK135, HB, BK137, GW137, GE137, NB135_137, NB137_135⟩ := n_; clear hb hbox hg; have hnb21 := NB137_135.out; have hnc21 := NB135_137.out; obtain ⟨hcz22_0, hcz22_1, hcz22_2, hcz22_3, hfz22_0, hfz22_1, hfz22_2, hfz22_3⟩ := xC BK137.out; obtain ⟨hcz23_0, hcz23_1, hfz23_0, hfz23_1⟩ := yt BK135.out) | (go_at_call 120; (with_reducible refine (wb.calls k1 ((vk l0 x12_1).f0) ((vk l0 x12_1).f1) ((vk l0 x12_1).f2) ((vk l0 x12_1).f3) a1_0 a1_1 t138 true _ A7.out).mono ?_); rintro e w24 ⟨rfl, hb⟩; have n_ := aC (vu (g := gb135) (o := .cells #[.bool a1_0, .int .i64 a1_1] 64 (0, 0)) (by (with_reducible repeat first | apply vl | apply vn | apply vm); refine vV ?_ NB135_137.out _; (with_reducible repeat first | apply vl | apply vn | apply vm); refine vV ?_ NB135_137.out _; (with_reducible repeat first | apply vl | apply vn | apply vm); refine vV ?_ NB135_137.out _; (with_reducible repeat first | apply vl | apply vn | apply vm); refine vV ?_ NB135_137.out _; (with_reducible repeat first | apply vl | apply vn | apply vm); exact BK135.out) hb) (aC (vu (g := gb137) (o := .cells #[.int .i64 ((vk l0 x12_1).f0), .int .i64 ((vk l0 x12_1).f1), .int .i64 ((vk l0 x12_1).f2), .int .i64 ((vk l0 x12_1).f3)] 87 (0, 0)) (by (with_reducible repeat first | apply vl | apply vn | apply vm); refine vv (cs := #[.int .i64 ((vk l0 x12_1).f0), .int .i64 ((vk l0 x12_1).f1), .int .i64 ((vk l0 x12_1).f2), .int .i64 0]) ?_ 3 _ rfl; (with_reducible repeat first | apply vl | apply vn | apply vm); refine vv (cs := #[.int .i64 ((vk l0 x12_1).f0), .int .i64 ((vk l0 x12_1).f1), .int .i64 0, .int .i64 0]) ?_ 2 _ rfl; (with_reducible repeat first | apply vl | apply vn | apply vm); refine vv (cs := #[.int .i64 ((vk l0 x12_1).f0), .int .i64 0, .int .i64 0, .int .i64 0]) ?_ 1 _ rfl; (with_reducible repeat first | apply vl | apply vn | apply vm); refine vv (cs := #[.int .i64 0, .int .i64 0, .int .i64 0, .int .i64 0]) ?_ 0 _ rfl; (with_reducible repeat first | apply vl | apply vn | apply vm); exact BK137.out) hb) (aE (bs hb))); clear BK135 BK137 HB; obtain ⟨BK135, BK137, HB⟩ := n_; obtain ⟨hcz25_0, hcz25_1, hcz25_2, hcz25_3, hfz25_0, hfz25_1, hfz25_2, hfz25_3⟩ := xC BK137.out; have p140 : 0 ≤ (x4_1 : Int) := dt; have q140 : x4_1 < (l0.length : Int) := dt; obtain ⟨ad140, e140, hx140_0, hx140_1, hx140_2, hx140_3⟩ := xw HR0.out x4_1 p140 q140; obtain rfl : ad136 = ad140 := (by injection e140); replace hx140_0 := hcB HB.out hx140_0; replace hx140_1 := hcB HB.out hx140_1; replace hx140_2 := hcB HB.out hx140_2; replace hx140_3 := hcB HB.out hx140_3; replace p140 := eq_true p140; replace q140 := eq_true q140; have p141 : 0 ≤ (x4_1 : Int) := dt; have q141 : x4_1 < (l0.length : Int) := dt; obtain ⟨ad141, e141, hx141_0, hx141_1, hx141_2, hx141_3⟩ := xw HR0.out x4_1 p141 q141; obtain rfl : ad136 = ad141 := (by injection e141); replace hx141_0 := hcB HB.out hx141_0; replace hx141_1 := hcB HB.out hx141_1; replace hx141_2 := hcB HB.out hx141_2; replace hx141_3 := hcB HB.out hx141_3; replace p141 := eq_true p141; replace q141 := eq_true q141)))
            go_roundg k1
            case measure => have := HK1.out; omega
            case rel => exact ⟨(x12_1), (t138), (wrap64 (x12_1 + 1)), rq, rq, rq, H', ⟨by have := HK1.out; omega⟩, ⟨bU BK135.out⟩, ⟨bl⟩⟩
           ·have H' := Aside0.mk H
            clear H
            have p136 : 0 ≤ (x12_1 : Int) := dt
            have q136 : x12_1 < (l0.length : Int) := dt
            obtain ⟨ad136, e136, hx136_0, hx136_1, hx136_2, hx136_3⟩ := xw HR0.out x12_1 p136 q136
            cases e136
            replace hx136_0 := hcB HB.out hx136_0
            replace hx136_1 := hcB HB.out hx136_1
            replace hx136_2 := hcB HB.out hx136_2
            replace hx136_3 := hcB HB.out hx136_3
            replace p136 := eq_true p136
            replace q136 := eq_true q136
            go_wp2_with (first | ((with_reducible refine gd 7 rfl ?_); refine bx 7 #[.int .i64 0, .int .i64 0, .int .i64 0, .int .i64 0] 87 rfl rfl ?_; intro gb137 hg w26 hbox hb; have n_ := aC (vu (bU BK135.out) hb) (aC (bs hb) (aC hbox (aC (gz hg) (aC (gz hg) (aC (gn hg (bU BK135.out)) (aE (gm hg (bU BK135.out)))))))); clear BK135 HB; obtain ⟨BK135, HB, BK137, GW137, GE137, NB135_137, NB137_135⟩ := n_; clear hb hbox hg; have hnb27 := NB137_135.out; have hnc27 := NB135_137.out; obtain ⟨hcz28_0, hcz28_1, hcz28_2, hcz28_3, hfz28_0, hfz28_1, hfz28_2, hfz28_3⟩ := xC BK137.out; obtain ⟨hcz29_0, hcz29_1, hfz29_0, hfz29_1⟩ := yt BK135.out) | (go_at_call 120; (with_reducible refine (wb.calls k1 ((vk l0 x12_1).f0) ((vk l0 x12_1).f1) ((vk l0 x12_1).f2) ((vk l0 x12_1).f3) a1_0 a1_1 t138 true _ A7.out).mono ?_); rintro e w30 ⟨rfl, hb⟩; have n_ := aC (vu (g := gb135) (o := .cells #[.bool a1_0, .int .i64 a1_1] 64 (0, 0)) (by (with_reducible repeat first | apply vl | apply vn | apply vm); refine vV ?_ NB135_137.out _; (with_reducible repeat first | apply vl | apply vn | apply vm); refine vV ?_ NB135_137.out _; (with_reducible repeat first | apply vl | apply vn | apply vm); refine vV ?_ NB135_137.out _; (with_reducible repeat first | apply vl | apply vn | apply vm); refine vV ?_ NB135_137.out _; (with_reducible repeat first | apply vl | apply vn | apply vm); exact BK135.out) hb) (aC (vu (g := gb137) (o := .cells #[.int .i64 ((vk l0 x12_1).f0), .int .i64 ((vk l0 x12_1).f1), .int .i64 ((vk l0 x12_1).f2), .int .i64 ((vk l0 x12_1).f3)] 87 (0, 0)) (by (with_reducible repeat first | apply vl | apply vn | apply vm); refine vv (cs := #[.int .i64 ((vk l0 x12_1).f0), .int .i64 ((vk l0 x12_1).f1), .int .i64 ((vk l0 x12_1).f2), .int .i64 0]) ?_ 3 _ rfl; (with_reducible repeat first | apply vl | apply vn | apply vm); refine vv (cs := #[.int .i64 ((vk l0 x12_1).f0), .int .i64 ((vk l0 x12_1).f1), .int .i64 0, .int .i64 0]) ?_ 2 _ rfl; (with_reducible repeat first | apply vl | apply vn | apply vm); refine vv (cs := #[.int .i64 ((vk l0 x12_1).f0), .int .i64 0, .int .i64 0, .int .i64 0]) ?_ 1 _ rfl; (with_reducible repeat first | apply vl | apply vn | apply vm); refine vv (cs := #[.int .i64 0, .int .i64 0, .int .i64 0, .int .i64 0]) ?_ 0 _ rfl; (with_reducible repeat first | apply vl | apply vn | apply vm); exact BK137.out) hb) (aE (bs hb))); clear BK135 BK137 HB; obtain ⟨BK135, BK137, HB⟩ := n_; obtain ⟨hcz31_0, hcz31_1, hcz31_2, hcz31_3, hfz31_0, hfz31_1, hfz31_2, hfz31_3⟩ := xC BK137.out; have p140 : 0 ≤ (x4_1 : Int) := dt; have q140 : x4_1 < (l0.length : Int) := dt; obtain ⟨ad140, e140, hx140_0, hx140_1, hx140_2, hx140_3⟩ := xw HR0.out x4_1 p140 q140; obtain rfl : ad136 = ad140 := (by injection e140); replace hx140_0 := hcB HB.out hx140_0; replace hx140_1 := hcB HB.out hx140_1; replace hx140_2 := hcB HB.out hx140_2; replace hx140_3 := hcB HB.out hx140_3; replace p140 := eq_true p140; replace q140 := eq_true q140; have p141 : 0 ≤ (x4_1 : Int) := dt; have q141 : x4_1 < (l0.length : Int) := dt; obtain ⟨ad141, e141, hx141_0, hx141_1, hx141_2, hx141_3⟩ := xw HR0.out x4_1 p141 q141; obtain rfl : ad136 = ad141 := (by injection e141); replace hx141_0 := hcB HB.out hx141_0; replace hx141_1 := hcB HB.out hx141_1; replace hx141_2 := hcB HB.out hx141_2; replace hx141_3 := hcB HB.out hx141_3; replace p141 := eq_true p141; replace q141 := eq_true q141))
            repeat (go_quiet (first | ((with_reducible refine gd 7 rfl ?_); refine bx 7 #[.int .i64 0, .int .i64 0, .int .i64 0, .int .i64 0] 87 rfl rfl ?_; intro gb137 hg w26 hbox hb; have n_ := aC (vu (bU BK135.out) hb) (aC (bs hb) (aC hbox (aC (gz hg) (aC (gz hg) (aC (gn hg (bU BK135.out)) (aE (gm hg (bU BK135.out)))))))); clear BK135 HB; obtain ⟨BK135, HB, BK137, GW137, GE137, NB135_137, NB137_135⟩ := n_; clear hb hbox hg; have hnb27 := NB137_135.out; have hnc27 := NB135_137.out; obtain ⟨hcz28_0, hcz28_1, hcz28_2, hcz28_3, hfz28_0, hfz28_1, hfz28_2, hfz28_3⟩ := xC BK137.out; obtain ⟨hcz29_0, hcz29_1, hfz29_0, hfz29_1⟩ := yt BK135.out) | (go_at_call 120; (with_reducible refine (wb.calls k1 ((vk l0 x12_1).f0) ((vk l0 x12_1).f1) ((vk l0 x12_1).f2) ((vk l0 x12_1).f3) a1_0 a1_1 t138 true _ A7.out).mono ?_); rintro e w30 ⟨rfl, hb⟩; have n_ := aC (vu (g := gb135) (o := .cells #[.bool a1_0, .int .i64 a1_1] 64 (0, 0)) (by (with_reducible repeat first | apply vl | apply vn | apply vm); refine vV ?_ NB135_137.out _; (with_reducible repeat first | apply vl | apply vn | apply vm); refine vV ?_ NB135_137.out _; (with_reducible repeat first | apply vl | apply vn | apply vm); refine vV ?_ NB135_137.out _; (with_reducible repeat first | apply vl | apply vn | apply vm); refine vV ?_ NB135_137.out _; (with_reducible repeat first | apply vl | apply vn | apply vm); exact BK135.out) hb) (aC (vu (g := gb137) (o := .cells #[.int .i64 ((vk l0 x12_1).f0), .int .i64 ((vk l0 x12_1).f1), .int .i64 ((vk l0 x12_1).f2), .int .i64 ((vk l0 x12_1).f3)] 87 (0, 0)) (by (with_reducible repeat first | apply vl | apply vn | apply vm); refine vv (cs := #[.int .i64 ((vk l0 x12_1).f0), .int .i64 ((vk l0 x12_1).f1), .int .i64 ((vk l0 x12_1).f2), .int .i64 0]) ?_ 3 _ rfl; (with_reducible repeat first | apply vl | apply vn | apply vm); refine vv (cs := #[.int .i64 ((vk l0 x12_1).f0), .int .i64 ((vk l0 x12_1).f1), .int .i64 0, .int .i64 0]) ?_ 2 _ rfl; (with_reducible repeat first | apply vl | apply vn | apply vm); refine vv (cs := #[.int .i64 ((vk l0 x12_1).f0), .int .i64 0, .int .i64 0, .int .i64 0]) ?_ 1 _ rfl; (with_reducible repeat first | apply vl | apply vn | apply vm); refine vv (cs := #[.int .i64 0, .int .i64 0, .int .i64 0, .int .i64 0]) ?_ 0 _ rfl; (with_reducible repeat first | apply vl | apply vn | apply vm); exact BK137.out) hb) (aE (bs hb))); clear BK135 BK137 HB; obtain ⟨BK135, BK137, HB⟩ := n_; obtain ⟨hcz31_0, hcz31_1, hcz31_2, hcz31_3, hfz31_0, hfz31_1, hfz31_2, hfz31_3⟩ := xC BK137.out; have p140 : 0 ≤ (x4_1 : Int) := dt; have q140 : x4_1 < (l0.length : Int) := dt; obtain ⟨ad140, e140, hx140_0, hx140_1, hx140_2, hx140_3⟩ := xw HR0.out x4_1 p140 q140; obtain rfl : ad136 = ad140 := (by injection e140); replace hx140_0 := hcB HB.out hx140_0; replace hx140_1 := hcB HB.out hx140_1; replace hx140_2 := hcB HB.out hx140_2; replace hx140_3 := hcB HB.out hx140_3; replace p140 := eq_true p140; replace q140 := eq_true q140; have p141 : 0 ≤ (x4_1 : Int) := dt; have q141 : x4_1 < (l0.length : Int) := dt; obtain ⟨ad141, e141, hx141_0, hx141_1, hx141_2, hx141_3⟩ := xw HR0.out x4_1 p141 q141; obtain rfl : ad136 = ad141 := (by injection e141); replace hx141_0 := hcB HB.out hx141_0; replace hx141_1 := hcB HB.out hx141_1; replace hx141_2 := hcB HB.out hx141_2; replace hx141_3 := hcB HB.out hx141_3; replace p141 := eq_true p141; replace q141 := eq_true q141)); try go_wp2_with (first | ((with_reducible refine gd 7 rfl ?_); refine bx 7 #[.int .i64 0, .int .i64 0, .int .i64 0, .int .i64 0] 87 rfl rfl ?_; intro gb137 hg w26 hbox hb; have n_ := aC (vu (bU BK135.out) hb) (aC (bs hb) (aC hbox (aC (gz hg) (aC (gz hg) (aC (gn hg (bU BK135.out)) (aE (gm hg (bU BK135.out)))))))); clear BK135 HB; obtain ⟨BK135, HB, BK137, GW137, GE137, NB135_137, NB137_135⟩ := n_; clear hb hbox hg; have hnb27 := NB137_135.out; have hnc27 := NB135_137.out; obtain ⟨hcz28_0, hcz28_1, hcz28_2, hcz28_3, hfz28_0, hfz28_1, hfz28_2, hfz28_3⟩ := xC BK137.out; obtain ⟨hcz29_0, hcz29_1, hfz29_0, hfz29_1⟩ := yt BK135.out) | (go_at_call 120; (with_reducible refine (wb.calls k1 ((vk l0 x12_1).f0) ((vk l0 x12_1).f1) ((vk l0 x12_1).f2) ((vk l0 x12_1).f3) a1_0 a1_1 t138 true _ A7.out).mono ?_); rintro e w30 ⟨rfl, hb⟩; have n_ := aC (vu (g := gb135) (o := .cells #[.bool a1_0, .int .i64 a1_1] 64 (0, 0)) (by (with_reducible repeat first | apply vl | apply vn | apply vm); refine vV ?_ NB135_137.out _; (with_reducible repeat first | apply vl | apply vn | apply vm); refine vV ?_ NB135_137.out _; (with_reducible repeat first | apply vl | apply vn | apply vm); refine vV ?_ NB135_137.out _; (with_reducible repeat first | apply vl | apply vn | apply vm); refine vV ?_ NB135_137.out _; (with_reducible repeat first | apply vl | apply vn | apply vm); exact BK135.out) hb) (aC (vu (g := gb137) (o := .cells #[.int .i64 ((vk l0 x12_1).f0), .int .i64 ((vk l0 x12_1).f1), .int .i64 ((vk l0 x12_1).f2), .int .i64 ((vk l0 x12_1).f3)] 87 (0, 0)) (by (with_reducible repeat first | apply vl | apply vn | apply vm); refine vv (cs := #[.int .i64 ((vk l0 x12_1).f0), .int .i64 ((vk l0 x12_1).f1), .int .i64 ((vk l0 x12_1).f2), .int .i64 0]) ?_ 3 _ rfl; (with_reducible repeat first | apply vl | apply vn | apply vm); refine vv (cs := #[.int .i64 ((vk l0 x12_1).f0), .int .i64 ((vk l0 x12_1).f1), .int .i64 0, .int .i64 0]) ?_ 2 _ rfl; (with_reducible repeat first | apply vl | apply vn | apply vm); refine vv (cs := #[.int .i64 ((vk l0 x12_1).f0), .int .i64 0, .int .i64 0, .int .i64 0]) ?_ 1 _ rfl; (with_reducible repeat first | apply vl | apply vn | apply vm); refine vv (cs := #[.int .i64 0, .int .i64 0, .int .i64 0, .int .i64 0]) ?_ 0 _ rfl; (with_reducible repeat first | apply vl | apply vn | apply vm); exact BK137.out) hb) (aE (bs hb))); clear BK135 BK137 HB; obtain ⟨BK135, BK137, HB⟩ := n_; obtain ⟨hcz31_0, hcz31_1, hcz31_2, hcz31_3, hfz31_0, hfz31_1, hfz31_2, hfz31_3⟩ := xC BK137.out; have p140 : 0 ≤ (x4_1 : Int) := dt; have q140 : x4_1 < (l0.length : Int) := dt; obtain ⟨ad140, e140, hx140_0, hx140_1, hx140_2, hx140_3⟩ := xw HR0.out x4_1 p140 q140; obtain rfl : ad136 = ad140 := (by injection e140); replace hx140_0 := hcB HB.out hx140_0; replace hx140_1 := hcB HB.out hx140_1; replace hx140_2 := hcB HB.out hx140_2; replace hx140_3 := hcB HB.out hx140_3; replace p140 := eq_true p140; replace q140 := eq_true q140; have p141 : 0 ≤ (x4_1 : Int) := dt; have q141 : x4_1 < (l0.length : Int) := dt; obtain ⟨ad141, e141, hx141_0, hx141_1, hx141_2, hx141_3⟩ := xw HR0.out x4_1 p141 q141; obtain rfl : ad136 = ad141 := (by injection e141); replace hx141_0 := hcB HB.out hx141_0; replace hx141_1 := hcB HB.out hx141_1; replace hx141_2 := hcB HB.out hx141_2; replace hx141_3 := hcB HB.out hx141_3; replace p141 := eq_true p141; replace q141 := eq_true q141)))
            go_roundg k1
            case measure => have := HK1.out; omega
            case rel => exact ⟨(x4_1), (x5_1), (wrap64 (x12_1 + 1)), rq, rq, rq, H', ⟨by have := HK1.out; omega⟩, ⟨bU BK135.out⟩, ⟨bl⟩⟩
          ·rw [if_neg c18] at H
           exact absurd H (by simp)
         ·rw [if_neg c17] at H
          exact absurd H (by simp)
       ·have H' := Aside0.mk H
        clear H
        have p136 : 0 ≤ (x12_1 : Int) := dt
        have q136 : x12_1 < (l0.length : Int) := dt
        obtain ⟨ad136, e136, hx136_0, hx136_1, hx136_2, hx136_3⟩ := xw HR0.out x12_1 p136 q136
        cases e136
        replace hx136_0 := hcB HB.out hx136_0
        replace hx136_1 := hcB HB.out hx136_1
        replace hx136_2 := hcB HB.out hx136_2
        replace hx136_3 := hcB HB.out hx136_3
        replace p136 := eq_true p136
        replace q136 := eq_true q136
        go_wp2_with (first | ((with_reducible refine gd 7 rfl ?_); refine bx 7 #[.int .i64 0, .int .i64 0, .int .i64 0, .int .i64 0] 87 rfl rfl ?_; intro gb137 hg w32 hbox hb; have n_ := aC (vu (bU BK135.out) hb) (aC (bs hb) (aC hbox (aC (gz hg) (aC (gz hg) (aC (gn hg (bU BK135.out)) (aE (gm hg (bU BK135.out)))))))); clear BK135 HB; obtain ⟨BK135, HB, BK137, GW137, GE137, NB135_137, NB137_135⟩ := n_; clear hb hbox hg; have hnb33 := NB137_135.out; have hnc33 := NB135_137.out; obtain ⟨hcz34_0, hcz34_1, hcz34_2, hcz34_3, hfz34_0, hfz34_1, hfz34_2, hfz34_3⟩ := xC BK137.out; obtain ⟨hcz35_0, hcz35_1, hfz35_0, hfz35_1⟩ := yt BK135.out) | (go_at_call 120; (with_reducible refine (wb.calls k1 ((vk l0 x12_1).f0) ((vk l0 x12_1).f1) ((vk l0 x12_1).f2) ((vk l0 x12_1).f3) a1_0 a1_1 t138 true _ A7.out).mono ?_); rintro e w36 ⟨rfl, hb⟩; have n_ := aC (vu (g := gb135) (o := .cells #[.bool a1_0, .int .i64 a1_1] 64 (0, 0)) (by (with_reducible repeat first | apply vl | apply vn | apply vm); refine vV ?_ NB135_137.out _; (with_reducible repeat first | apply vl | apply vn | apply vm); refine vV ?_ NB135_137.out _; (with_reducible repeat first | apply vl | apply vn | apply vm); refine vV ?_ NB135_137.out _; (with_reducible repeat first | apply vl | apply vn | apply vm); refine vV ?_ NB135_137.out _; (with_reducible repeat first | apply vl | apply vn | apply vm); exact BK135.out) hb) (aC (vu (g := gb137) (o := .cells #[.int .i64 ((vk l0 x12_1).f0), .int .i64 ((vk l0 x12_1).f1), .int .i64 ((vk l0 x12_1).f2), .int .i64 ((vk l0 x12_1).f3)] 87 (0, 0)) (by (with_reducible repeat first | apply vl | apply vn | apply vm); refine vv (cs := #[.int .i64 ((vk l0 x12_1).f0), .int .i64 ((vk l0 x12_1).f1), .int .i64 ((vk l0 x12_1).f2), .int .i64 0]) ?_ 3 _ rfl; (with_reducible repeat first | apply vl | apply vn | apply vm); refine vv (cs := #[.int .i64 ((vk l0 x12_1).f0), .int .i64 ((vk l0 x12_1).f1), .int .i64 0, .int .i64 0]) ?_ 2 _ rfl; (with_reducible repeat first | apply vl | apply vn | apply vm); refine vv (cs := #[.int .i64 ((vk l0 x12_1).f0), .int .i64 0, .int .i64 0, .int .i64 0]) ?_ 1 _ rfl; (with_reducible repeat first | apply vl | apply vn | apply vm); refine vv (cs := #[.int .i64 0, .int .i64 0, .int .i64 0, .int .i64 0]) ?_ 0 _ rfl; (with_reducible repeat first | apply vl | apply vn | apply vm); exact BK137.out) hb) (aE (bs hb))); clear BK135 BK137 HB; obtain ⟨BK135, BK137, HB⟩ := n_; obtain ⟨hcz37_0, hcz37_1, hcz37_2, hcz37_3, hfz37_0, hfz37_1, hfz37_2, hfz37_3⟩ := xC BK137.out))
        repeat (go_quiet (first | ((with_reducible refine gd 7 rfl ?_); refine bx 7 #[.int .i64 0, .int .i64 0, .int .i64 0, .int .i64 0] 87 rfl rfl ?_; intro gb137 hg w32 hbox hb; have n_ := aC (vu (bU BK135.out) hb) (aC (bs hb) (aC hbox (aC (gz hg) (aC (gz hg) (aC (gn hg (bU BK135.out)) (aE (gm hg (bU BK135.out)))))))); clear BK135 HB; obtain ⟨BK135, HB, BK137, GW137, GE137, NB135_137, NB137_135⟩ := n_; clear hb hbox hg; have hnb33 := NB137_135.out; have hnc33 := NB135_137.out; obtain ⟨hcz34_0, hcz34_1, hcz34_2, hcz34_3, hfz34_0, hfz34_1, hfz34_2, hfz34_3⟩ := xC BK137.out; obtain ⟨hcz35_0, hcz35_1, hfz35_0, hfz35_1⟩ := yt BK135.out) | (go_at_call 120; (with_reducible refine (wb.calls k1 ((vk l0 x12_1).f0) ((vk l0 x12_1).f1) ((vk l0 x12_1).f2) ((vk l0 x12_1).f3) a1_0 a1_1 t138 true _ A7.out).mono ?_); rintro e w36 ⟨rfl, hb⟩; have n_ := aC (vu (g := gb135) (o := .cells #[.bool a1_0, .int .i64 a1_1] 64 (0, 0)) (by (with_reducible repeat first | apply vl | apply vn | apply vm); refine vV ?_ NB135_137.out _; (with_reducible repeat first | apply vl | apply vn | apply vm); refine vV ?_ NB135_137.out _; (with_reducible repeat first | apply vl | apply vn | apply vm); refine vV ?_ NB135_137.out _; (with_reducible repeat first | apply vl | apply vn | apply vm); refine vV ?_ NB135_137.out _; (with_reducible repeat first | apply vl | apply vn | apply vm); exact BK135.out) hb) (aC (vu (g := gb137) (o := .cells #[.int .i64 ((vk l0 x12_1).f0), .int .i64 ((vk l0 x12_1).f1), .int .i64 ((vk l0 x12_1).f2), .int .i64 ((vk l0 x12_1).f3)] 87 (0, 0)) (by (with_reducible repeat first | apply vl | apply vn | apply vm); refine vv (cs := #[.int .i64 ((vk l0 x12_1).f0), .int .i64 ((vk l0 x12_1).f1), .int .i64 ((vk l0 x12_1).f2), .int .i64 0]) ?_ 3 _ rfl; (with_reducible repeat first | apply vl | apply vn | apply vm); refine vv (cs := #[.int .i64 ((vk l0 x12_1).f0), .int .i64 ((vk l0 x12_1).f1), .int .i64 0, .int .i64 0]) ?_ 2 _ rfl; (with_reducible repeat first | apply vl | apply vn | apply vm); refine vv (cs := #[.int .i64 ((vk l0 x12_1).f0), .int .i64 0, .int .i64 0, .int .i64 0]) ?_ 1 _ rfl; (with_reducible repeat first | apply vl | apply vn | apply vm); refine vv (cs := #[.int .i64 0, .int .i64 0, .int .i64 0, .int .i64 0]) ?_ 0 _ rfl; (with_reducible repeat first | apply vl | apply vn | apply vm); exact BK137.out) hb) (aE (bs hb))); clear BK135 BK137 HB; obtain ⟨BK135, BK137, HB⟩ := n_; obtain ⟨hcz37_0, hcz37_1, hcz37_2, hcz37_3, hfz37_0, hfz37_1, hfz37_2, hfz37_3⟩ := xC BK137.out)); try go_wp2_with (first | ((with_reducible refine gd 7 rfl ?_); refine bx 7 #[.int .i64 0, .int .i64 0, .int .i64 0, .int .i64 0] 87 rfl rfl ?_; intro gb137 hg w32 hbox hb; have n_ := aC (vu (bU BK135.out) hb) (aC (bs hb) (aC hbox (aC (gz hg) (aC (gz hg) (aC (gn hg (bU BK135.out)) (aE (gm hg (bU BK135.out)))))))); clear BK135 HB; obtain ⟨BK135, HB, BK137, GW137, GE137, NB135_137, NB137_135⟩ := n_; clear hb hbox hg; have hnb33 := NB137_135.out; have hnc33 := NB135_137.out; obtain ⟨hcz34_0, hcz34_1, hcz34_2, hcz34_3, hfz34_0, hfz34_1, hfz34_2, hfz34_3⟩ := xC BK137.out; obtain ⟨hcz35_0, hcz35_1, hfz35_0, hfz35_1⟩ := yt BK135.out) | (go_at_call 120; (with_reducible refine (wb.calls k1 ((vk l0 x12_1).f0) ((vk l0 x12_1).f1) ((vk l0 x12_1).f2) ((vk l0 x12_1).f3) a1_0 a1_1 t138 true _ A7.out).mono ?_); rintro e w36 ⟨rfl, hb⟩; have n_ := aC (vu (g := gb135) (o := .cells #[.bool a1_0, .int .i64 a1_1] 64 (0, 0)) (by (with_reducible repeat first | apply vl | apply vn | apply vm); refine vV ?_ NB135_137.out _; (with_reducible repeat first | apply vl | apply vn | apply vm); refine vV ?_ NB135_137.out _; (with_reducible repeat first | apply vl | apply vn | apply vm); refine vV ?_ NB135_137.out _; (with_reducible repeat first | apply vl | apply vn | apply vm); refine vV ?_ NB135_137.out _; (with_reducible repeat first | apply vl | apply vn | apply vm); exact BK135.out) hb) (aC (vu (g := gb137) (o := .cells #[.int .i64 ((vk l0 x12_1).f0), .int .i64 ((vk l0 x12_1).f1), .int .i64 ((vk l0 x12_1).f2), .int .i64 ((vk l0 x12_1).f3)] 87 (0, 0)) (by (with_reducible repeat first | apply vl | apply vn | apply vm); refine vv (cs := #[.int .i64 ((vk l0 x12_1).f0), .int .i64 ((vk l0 x12_1).f1), .int .i64 ((vk l0 x12_1).f2), .int .i64 0]) ?_ 3 _ rfl; (with_reducible repeat first | apply vl | apply vn | apply vm); refine vv (cs := #[.int .i64 ((vk l0 x12_1).f0), .int .i64 ((vk l0 x12_1).f1), .int .i64 0, .int .i64 0]) ?_ 2 _ rfl; (with_reducible repeat first | apply vl | apply vn | apply vm); refine vv (cs := #[.int .i64 ((vk l0 x12_1).f0), .int .i64 0, .int .i64 0, .int .i64 0]) ?_ 1 _ rfl; (with_reducible repeat first | apply vl | apply vn | apply vm); refine vv (cs := #[.int .i64 0, .int .i64 0, .int .i64 0, .int .i64 0]) ?_ 0 _ rfl; (with_reducible repeat first | apply vl | apply vn | apply vm); exact BK137.out) hb) (aE (bs hb))); clear BK135 BK137 HB; obtain ⟨BK135, BK137, HB⟩ := n_; obtain ⟨hcz37_0, hcz37_1, hcz37_2, hcz37_3, hfz37_0, hfz37_1, hfz37_2, hfz37_3⟩ := xC BK137.out)))
        go_roundg k1
        case measure => have := HK1.out; omega
        case rel => exact ⟨(x4_1), (x5_1), (wrap64 (x12_1 + 1)), rq, rq, rq, H', ⟨by have := HK1.out; omega⟩, ⟨bU BK135.out⟩, ⟨bl⟩⟩
      ·replace c8 := Bool.eq_false_iff.mpr c8
       subst c8
       rw [if_neg Bool.false_ne_true] at H
       have H' := Aside0.mk H
       clear H
       have p136 : 0 ≤ (x12_1 : Int) := dt
       have q136 : x12_1 < (l0.length : Int) := dt
       obtain ⟨ad136, e136, hx136_0, hx136_1, hx136_2, hx136_3⟩ := xw HR0.out x12_1 p136 q136
       cases e136
       replace hx136_0 := hcB HB.out hx136_0
       replace hx136_1 := hcB HB.out hx136_1
       replace hx136_2 := hcB HB.out hx136_2
       replace hx136_3 := hcB HB.out hx136_3
       replace p136 := eq_true p136
       replace q136 := eq_true q136
       go_wp2_with (first | ((with_reducible refine gd 7 rfl ?_); refine bx 7 #[.int .i64 0, .int .i64 0, .int .i64 0, .int .i64 0] 87 rfl rfl ?_; intro gb137 hg w38 hbox hb; have n_ := aC (vu (bU BK135.out) hb) (aC (bs hb) (aC hbox (aC (gz hg) (aC (gz hg) (aC (gn hg (bU BK135.out)) (aE (gm hg (bU BK135.out)))))))); clear BK135 HB; obtain ⟨BK135, HB, BK137, GW137, GE137, NB135_137, NB137_135⟩ := n_; clear hb hbox hg; have hnb39 := NB137_135.out; have hnc39 := NB135_137.out; obtain ⟨hcz40_0, hcz40_1, hcz40_2, hcz40_3, hfz40_0, hfz40_1, hfz40_2, hfz40_3⟩ := xC BK137.out; obtain ⟨hcz41_0, hcz41_1, hfz41_0, hfz41_1⟩ := yt BK135.out) | (go_at_call 120; (with_reducible refine (wb.calls k1 ((vk l0 x12_1).f0) ((vk l0 x12_1).f1) ((vk l0 x12_1).f2) ((vk l0 x12_1).f3) a1_0 a1_1 t138 false _ A7.out).mono ?_); rintro e w42 ⟨rfl, hb⟩; have n_ := aC (vu (g := gb135) (o := .cells #[.bool a1_0, .int .i64 a1_1] 64 (0, 0)) (by (with_reducible repeat first | apply vl | apply vn | apply vm); refine vV ?_ NB135_137.out _; (with_reducible repeat first | apply vl | apply vn | apply vm); refine vV ?_ NB135_137.out _; (with_reducible repeat first | apply vl | apply vn | apply vm); refine vV ?_ NB135_137.out _; (with_reducible repeat first | apply vl | apply vn | apply vm); refine vV ?_ NB135_137.out _; (with_reducible repeat first | apply vl | apply vn | apply vm); exact BK135.out) hb) (aC (vu (g := gb137) (o := .cells #[.int .i64 ((vk l0 x12_1).f0), .int .i64 ((vk l0 x12_1).f1), .int .i64 ((vk l0 x12_1).f2), .int .i64 ((vk l0 x12_1).f3)] 87 (0, 0)) (by (with_reducible repeat first | apply vl | apply vn | apply vm); refine vv (cs := #[.int .i64 ((vk l0 x12_1).f0), .int .i64 ((vk l0 x12_1).f1), .int .i64 ((vk l0 x12_1).f2), .int .i64 0]) ?_ 3 _ rfl; (with_reducible repeat first | apply vl | apply vn | apply vm); refine vv (cs := #[.int .i64 ((vk l0 x12_1).f0), .int .i64 ((vk l0 x12_1).f1), .int .i64 0, .int .i64 0]) ?_ 2 _ rfl; (with_reducible repeat first | apply vl | apply vn | apply vm); refine vv (cs := #[.int .i64 ((vk l0 x12_1).f0), .int .i64 0, .int .i64 0, .int .i64 0]) ?_ 1 _ rfl; (with_reducible repeat first | apply vl | apply vn | apply vm); refine vv (cs := #[.int .i64 0, .int .i64 0, .int .i64 0, .int .i64 0]) ?_ 0 _ rfl; (with_reducible repeat first | apply vl | apply vn | apply vm); exact BK137.out) hb) (aE (bs hb))); clear BK135 BK137 HB; obtain ⟨BK135, BK137, HB⟩ := n_))
       repeat (go_quiet (first | ((with_reducible refine gd 7 rfl ?_); refine bx 7 #[.int .i64 0, .int .i64 0, .int .i64 0, .int .i64 0] 87 rfl rfl ?_; intro gb137 hg w38 hbox hb; have n_ := aC (vu (bU BK135.out) hb) (aC (bs hb) (aC hbox (aC (gz hg) (aC (gz hg) (aC (gn hg (bU BK135.out)) (aE (gm hg (bU BK135.out)))))))); clear BK135 HB; obtain ⟨BK135, HB, BK137, GW137, GE137, NB135_137, NB137_135⟩ := n_; clear hb hbox hg; have hnb39 := NB137_135.out; have hnc39 := NB135_137.out; obtain ⟨hcz40_0, hcz40_1, hcz40_2, hcz40_3, hfz40_0, hfz40_1, hfz40_2, hfz40_3⟩ := xC BK137.out; obtain ⟨hcz41_0, hcz41_1, hfz41_0, hfz41_1⟩ := yt BK135.out) | (go_at_call 120; (with_reducible refine (wb.calls k1 ((vk l0 x12_1).f0) ((vk l0 x12_1).f1) ((vk l0 x12_1).f2) ((vk l0 x12_1).f3) a1_0 a1_1 t138 false _ A7.out).mono ?_); rintro e w42 ⟨rfl, hb⟩; have n_ := aC (vu (g := gb135) (o := .cells #[.bool a1_0, .int .i64 a1_1] 64 (0, 0)) (by (with_reducible repeat first | apply vl | apply vn | apply vm); refine vV ?_ NB135_137.out _; (with_reducible repeat first | apply vl | apply vn | apply vm); refine vV ?_ NB135_137.out _; (with_reducible repeat first | apply vl | apply vn | apply vm); refine vV ?_ NB135_137.out _; (with_reducible repeat first | apply vl | apply vn | apply vm); refine vV ?_ NB135_137.out _; (with_reducible repeat first | apply vl | apply vn | apply vm); exact BK135.out) hb) (aC (vu (g := gb137) (o := .cells #[.int .i64 ((vk l0 x12_1).f0), .int .i64 ((vk l0 x12_1).f1), .int .i64 ((vk l0 x12_1).f2), .int .i64 ((vk l0 x12_1).f3)] 87 (0, 0)) (by (with_reducible repeat first | apply vl | apply vn | apply vm); refine vv (cs := #[.int .i64 ((vk l0 x12_1).f0), .int .i64 ((vk l0 x12_1).f1), .int .i64 ((vk l0 x12_1).f2), .int .i64 0]) ?_ 3 _ rfl; (with_reducible repeat first | apply vl | apply vn | apply vm); refine vv (cs := #[.int .i64 ((vk l0 x12_1).f0), .int .i64 ((vk l0 x12_1).f1), .int .i64 0, .int .i64 0]) ?_ 2 _ rfl; (with_reducible repeat first | apply vl | apply vn | apply vm); refine vv (cs := #[.int .i64 ((vk l0 x12_1).f0), .int .i64 0, .int .i64 0, .int .i64 0]) ?_ 1 _ rfl; (with_reducible repeat first | apply vl | apply vn | apply vm); refine vv (cs := #[.int .i64 0, .int .i64 0, .int .i64 0, .int .i64 0]) ?_ 0 _ rfl; (with_reducible repeat first | apply vl | apply vn | apply vm); exact BK137.out) hb) (aE (bs hb))); clear BK135 BK137 HB; obtain ⟨BK135, BK137, HB⟩ := n_)); try go_wp2_with (first | ((with_reducible refine gd 7 rfl ?_); refine bx 7 #[.int .i64 0, .int .i64 0, .int .i64 0, .int .i64 0] 87 rfl rfl ?_; intro gb137 hg w38 hbox hb; have n_ := aC (vu (bU BK135.out) hb) (aC (bs hb) (aC hbox (aC (gz hg) (aC (gz hg) (aC (gn hg (bU BK135.out)) (aE (gm hg (bU BK135.out)))))))); clear BK135 HB; obtain ⟨BK135, HB, BK137, GW137, GE137, NB135_137, NB137_135⟩ := n_; clear hb hbox hg; have hnb39 := NB137_135.out; have hnc39 := NB135_137.out; obtain ⟨hcz40_0, hcz40_1, hcz40_2, hcz40_3, hfz40_0, hfz40_1, hfz40_2, hfz40_3⟩ := xC BK137.out; obtain ⟨hcz41_0, hcz41_1, hfz41_0, hfz41_1⟩ := yt BK135.out) | (go_at_call 120; (with_reducible refine (wb.calls k1 ((vk l0 x12_1).f0) ((vk l0 x12_1).f1) ((vk l0 x12_1).f2) ((vk l0 x12_1).f3) a1_0 a1_1 t138 false _ A7.out).mono ?_); rintro e w42 ⟨rfl, hb⟩; have n_ := aC (vu (g := gb135) (o := .cells #[.bool a1_0, .int .i64 a1_1] 64 (0, 0)) (by (with_reducible repeat first | apply vl | apply vn | apply vm); refine vV ?_ NB135_137.out _; (with_reducible repeat first | apply vl | apply vn | apply vm); refine vV ?_ NB135_137.out _; (with_reducible repeat first | apply vl | apply vn | apply vm); refine vV ?_ NB135_137.out _; (with_reducible repeat first | apply vl | apply vn | apply vm); refine vV ?_ NB135_137.out _; (with_reducible repeat first | apply vl | apply vn | apply vm); exact BK135.out) hb) (aC (vu (g := gb137) (o := .cells #[.int .i64 ((vk l0 x12_1).f0), .int .i64 ((vk l0 x12_1).f1), .int .i64 ((vk l0 x12_1).f2), .int .i64 ((vk l0 x12_1).f3)] 87 (0, 0)) (by (with_reducible repeat first | apply vl | apply vn | apply vm); refine vv (cs := #[.int .i64 ((vk l0 x12_1).f0), .int .i64 ((vk l0 x12_1).f1), .int .i64 ((vk l0 x12_1).f2), .int .i64 0]) ?_ 3 _ rfl; (with_reducible repeat first | apply vl | apply vn | apply vm); refine vv (cs := #[.int .i64 ((vk l0 x12_1).f0), .int .i64 ((vk l0 x12_1).f1), .int .i64 0, .int .i64 0]) ?_ 2 _ rfl; (with_reducible repeat first | apply vl | apply vn | apply vm); refine vv (cs := #[.int .i64 ((vk l0 x12_1).f0), .int .i64 0, .int .i64 0, .int .i64 0]) ?_ 1 _ rfl; (with_reducible repeat first | apply vl | apply vn | apply vm); refine vv (cs := #[.int .i64 0, .int .i64 0, .int .i64 0, .int .i64 0]) ?_ 0 _ rfl; (with_reducible repeat first | apply vl | apply vn | apply vm); exact BK137.out) hb) (aE (bs hb))); clear BK135 BK137 HB; obtain ⟨BK135, BK137, HB⟩ := n_)))
       go_roundg k1
       case measure => have := HK1.out; omega
       case rel => exact ⟨(x4_1), (x5_1), (wrap64 (x12_1 + 1)), rq, rq, rq, H', ⟨by have := HK1.out; omega⟩, ⟨bU BK135.out⟩, ⟨bl⟩⟩
     ·rw [if_neg c6] at H
      exact absurd H (by simp)
    ·rw [if_neg c5] at H
     exact absurd H (by simp)
   ·simp only [Option.some.injEq, Prod.mk.injEq] at H
    obtain ⟨rfl, rfl⟩ := H
    go_wp2
    go_ret2
    exact ⟨re, bl⟩
def wM.l0 : Nat → Int → Int → List Int → Int → Int → Option (List Int)
 | 0, _, _, _, _, _ => none
 | k + 1, x0, x1, x5, x10, x11 => if x11 < x10 then (if 0 ≤ (wrap64 ((wrap64 (x1 - 1)) - x11)) then (if 0 ≤ x11 then (if x11 < (x5.length : Int) then (wM.l0 k x0 x1 (x5.set (x11 : Int).toNat ((Go.bits .and .i64 (shr .i64 x0 (wrap64 ((wrap64 (x1 - 1)) - x11))) 1) % 256)) x10 (wrap64 (x11 + 1))) else (none)) else (none)) else (none)) else (some x5)
def wM.f (k : Nat) (a0 : Int) (a1 : Int) : Option (List Int) := if 0 ≤ a1 then (if (a1 : Int).toNat ≤ 281474976710656 then ((some (List.replicate (a1 : Int).toNat 0 : List Int)).bind fun y142 => (wM.l0 k a0 a1 y142 (y142.length : Int) 0)) else (none)) else (none)
theorem wM.wj : ∀ k, (∀ y0 y1 y2 y3 y4, vP (wM.l0 k y0 y1 y2 y3 y4) (wM.l0 (k + 1) y0 y1 y2 y3 y4))
 | 0 => fun _ _ _ _ _ r h => by simp [wM.l0] at h
 | k + 1 => by
  have ih0 := wM.wj k
  ·intro y0 y1 y2 y3 y4
   unfold wM.l0
   repeat' first
   | (with_reducible exact ih0 _ _ _ _ _)
   | (with_reducible first | exact vP.refl _ | exact vP.none _ | apply vP.ite | refine vP.bind ?_ fun _ => ?_)
theorem wM.mono : ∀ a0 a1 k, vP (wM.f k a0 a1) (wM.f (k + 1) a0 a1) := by
 intro a0 a1 k
 have ih0 := wM.wj k
 unfold wM.f
 repeat' first
   | (with_reducible exact ih0 _ _ _ _ _)
   | (with_reducible first | exact vP.refl _ | exact vP.none _ | apply vP.ite | refine vP.bind ?_ fun _ => ?_)
set_option maxHeartbeats 8000000 in
set_option maxRecDepth 100000 in
theorem wM.calls (k : Nat) (a0 : Int) (a1 : Int) (r : List Int) (w : World) (h : wM.f k a0 a1 = some r) :
  Calls Tryd.prog 108 #[.int .i64 a0, .int .i64 a1] w fun e w' => ∃ v0_ : Value, e = .returned (v0_) ∧ Kd.R (Kd.int .u8) 5 w' w.heap.size (fun _ => True) v0_ r ∧ Below w.heap.size w w' := by
 have HB := Aside0.mk (Below.refl w.heap.size w)
 have H := h
 unfold wM.f at H
 clear h
 by_cases c3 : 0 ≤ a1
 ·rw [if_pos c3] at H
  have c3b0 := eq_true c3
  have c3b1 := decide_eq_true c3
  clear c3
  by_cases c4 : (a1 : Int).toNat ≤ 281474976710656
  ·rw [if_pos c4] at H
   have c4b0 := eq_true c4
   have c4b1 := decide_eq_true c4
   clear c4
   obtain ⟨y142, hy_⟩ : ∃ y_ : List Int, y_ = (List.replicate (a1 : Int).toNat 0) := ⟨_, rfl⟩
   replace H : (wM.l0 k a0 a1 y142 (y142.length : Int) 0) = some r := rh
   have Ny142 := aE hy_
   clear hy_
   have H' := Aside0.mk H
   clear H
   go_enter Tryd.func108, Tryd.ntmps108
   go_wp2_with (first | ((with_reducible refine gd 8 rfl ?_); refine Kd.jF (Kd.int .u8) _ 5 rfl (N := 8) rfl 22 _ _ rfl a1 rfl rfl Tryd.underlying22 (.int .u8 0) 1 info5 rfl (by decide) (by omega) 0 (ok := fun _ => True) (okp := fun _ => True) rfl (fun _ hk => hk) trivial (dt) (Nat.le_trans (Nat.mul_le_mul_right _ (dt : a1.toNat ≤ 281474976710656)) (by omega)) (Below.refl _ _) (Nat.le_refl _) ?_; intro v143 w5 ho6 hb hg_ hnew_; clear hg_ hnew_; (first | rw [← Ny142.out] at ho6 | (simp only [Int.reduceToNat] at ho6; rw [← Ny142.out] at ho6)); have n_ := aC (Kd.vX ho6 bz) (aE (bs hb)); clear HB; obtain ⟨HO144, HB⟩ := n_; clear hb ho6; obtain ⟨Ao7, co7, eo7⟩ := Kd.wq HO144.out; subst eo7))
   go_loopg [11] k (fun kq v11 w' => ∃ (x5_1 : List Int) (x11_1 : Int), v11 = .int .i64 x11_1 ∧ Aside0 (wM.l0 kq a0 a1 x5_1 (y142.length : Int) x11_1 = some r) ∧ Aside0 (kq ≤ k) ∧ Aside0 (Kd.R (Kd.int .u8) 5 w' w.heap.size (fun _ => True) (.slice Ao7 y142.length co7) x5_1) ∧ Aside0 (Below w.heap.size w w'))
   case atStart => exact ⟨(y142), (0), rq, H', ⟨Nat.le_refl _⟩, ⟨rU HO144.out⟩, ⟨bl⟩⟩
   case round =>
    clear H'
    obtain ⟨x5_1, x11_1, rfl, HA, HK1, HO_5, HB⟩ := hrel
    have hl5_1 := (Kd.R_reads' HO_5.out).1
    rw [hl5_1] at HO_5
    (try simp only [hl5_1])
    cases gk with
    | zero => exact absurd HA.out (by simp [wM.l0])
    | succ k1 =>
     have H := HA.out
     clear HA
     simp only [wM.l0] at H
     by_cases c8 : x11_1 < (y142.length : Int)
     ·rw [if_pos c8] at H
      have c8b0 := decide_eq_true c8
      (try (have c8b0_hl5_1 := c8b0; simp only [hl5_1] at c8b0_hl5_1))
      clear c8
      obtain ⟨ji9, hji9⟩ : ∃ j_ : Int, (wrap64 ((wrap64 (a1 - 1)) - x11_1)) = j_ := ⟨_, rfl⟩
      replace H : (if 0 ≤ (ji9) then (if 0 ≤ x11_1 then (if x11_1 < (x5_1.length : Int) then (wM.l0 k1 a0 a1 (x5_1.set (x11_1 : Int).toNat ((Go.bits .and .i64 (shr .i64 a0 (ji9)) 1) % 256)) (y142.length : Int) (wrap64 (x11_1 + 1))) else (none)) else (none)) else (none)) = some r := by first | (rw [hji9] at H; exact H) | (simp only [hji9] at H ⊢; exact H)
      have hji9w : (IntKind.i64.wrap ((wrap64 (a1 - 1)) - x11_1)) = ji9 := (xD _).trans hji9
      by_cases c10 : 0 ≤ (ji9)
      ·rw [if_pos c10] at H
       have c10b0 := eq_true c10
       have c10b1 := decide_eq_true c10
       clear c10
       obtain ⟨ji11, hji11⟩ : ∃ j_ : Int, (shr .i64 a0 (ji9)) = j_ := ⟨_, rfl⟩
       replace H : (if 0 ≤ x11_1 then (if x11_1 < (x5_1.length : Int) then (wM.l0 k1 a0 a1 (x5_1.set (x11_1 : Int).toNat ((Go.bits .and .i64 (ji11) 1) % 256)) (y142.length : Int) (wrap64 (x11_1 + 1))) else (none)) else (none)) = some r := by first | (rw [hji11] at H; exact H) | (simp only [hji11] at H ⊢; exact H)
       have hji11_ : (a0 / 2 ^ min (ji9).toNat 64) = ji11 := hji11
       have hji11z : (ji9) ≤ 64 → (a0 / 2 ^ (ji9).toNat) = ji11 := jJ hji11
       by_cases c12 : 0 ≤ x11_1
       ·rw [if_pos c12] at H
        have c12b0 := decide_eq_true c12
        clear c12
        by_cases c13 : x11_1 < (x5_1.length : Int)
        ·rw [if_pos c13] at H
         have c13b0 := decide_eq_true c13
         (try (have c13b0_hl5_1 := c13b0; simp only [hl5_1] at c13b0_hl5_1))
         clear c13
         obtain ⟨y145, hy_⟩ : ∃ y_ : List Int, y_ = (x5_1.set (x11_1 : Int).toNat ((Go.bits .and .i64 (ji11) 1) % 256)) := ⟨_, rfl⟩
         replace H : (wM.l0 k1 a0 a1 y145 (y142.length : Int) (wrap64 (x11_1 + 1))) = some r := rh
         have Ny145 := aE hy_
         clear hy_
         have H' := Aside0.mk H
         clear H
         have p14 : 0 ≤ (x11_1 : Int) := dt
         have q14 : (x11_1 : Int) < ((x5_1.length : Int) : Int) := dt
         obtain ⟨go14, co14, eo14, gb14, gl14, cl14, HG14⟩ := Kd.R_form HO_5.out (by omega)
         (first | cases eo14 | (injection eo14 with ea_ en_ ec_; (first | subst ea_ | (injection ea_ with ea_; subst ea_)); subst ec_; clear en_))
         have GB14 := Aside0.mk gb14
         have GG14 := Aside0.mk HG14
         clear gb14 gl14 HG14
         obtain ⟨hx14_0, hf14_0⟩ := Kd.R_celln 0 HO_5.out (x11_1 : Int) p14 q14
         replace p14 := eq_true p14
         replace q14 := eq_true q14
         have HP15 := Kd.R_putg HO_5.out (x11_1 : Int) ((Go.bits .and .i64 (ji11) 1) % 256)
         go_wp2_with (first | ((with_reducible refine zp (t := 5) (p := 24) rfl ?_); refine yY (t := 5) (p := 24) (v := ?vo_w16) (w1 := (wr.setCell ⟨go14, (x11_1 : Int).toNat, none⟩ (.int .u8 ((Go.bits .and .i64 (ji11) 1) % 256)))) ?hg ?ho ?hn ?hr ?_; (case ho => rfl); (case hg => rfl); (case hn => rfl); (case hr => first | (go_simp; done) | (go_simp; rfl)); intro w16 hw; have hg : wr.grownBy w16 (some go14) := (by rw [hw]; exact HP15.2); have hp_ : Kd.R (Kd.int .u8) 5 w16 w.heap.size (fun _ => True) (.slice (some ⟨go14, 0, none⟩) x5_1.length co7) y145 := (by rw [hw, Ny145.out]; exact HP15.1); clear HP15; have n_ := aC hp_ (aE ((by rw [hw]; exact wk (HB.out) GB14.out : Below w.heap.size w w16))); clear HO_5 HB; obtain ⟨HO_5, HB⟩ := n_; clear hg hw hp_))
         (try simp only [← hl5_1])
         go_roundg k1
         case measure => have := HK1.out; omega
         case rel => exact ⟨(y145), (wrap64 (x11_1 + 1)), rq, H', ⟨by have := HK1.out; omega⟩, ⟨by (try simp only [hl5_1]); (with_reducible repeat (first | apply Kd.R_alloc | apply Kd.kX | apply Kd.jG)); exact HO_5.out⟩, ⟨bl⟩⟩
        ·rw [if_neg c13] at H
         exact absurd H (by simp)
       ·rw [if_neg c12] at H
        exact absurd H (by simp)
      ·rw [if_neg c10] at H
       exact absurd H (by simp)
     ·rw [if_neg c8] at H
      have c8b0 := decide_eq_false c8
      (try (have c8b0_hl5_1 := c8b0; simp only [hl5_1] at c8b0_hl5_1))
      clear c8
      obtain rfl := Option.some.inj H
      go_wp2
      go_ret
      exact ⟨_, re, rU HO_5.out, bl⟩
  ·rw [if_neg c4] at H
   exact absurd H (by simp)
 ·rw [if_neg c3] at H
  exact absurd H (by simp)
end Go.Proofs.YtknclbodinfbeaaDoor.PRunsSame
