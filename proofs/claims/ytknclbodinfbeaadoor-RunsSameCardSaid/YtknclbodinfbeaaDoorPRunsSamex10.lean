-- printed (wip/tools/myprint.py)
import Derived.Test.YtknclbodinfbeaaDoorPRunsSamex0
namespace Go.Proofs.YtknclbodinfbeaaDoor.PRunsSame
open Go.RowKit Go.Proofs.YtknclbodinfbeaaDoorW.PrintWords Go.Proofs.YtknclbodinfbeaaDoorW.PrintLast Go.Proofs.YtknclbodinfbeaaDoorW.PrintMore
attribute [local go_sem] yf yc yD yE xV xU ye yh
set_option linter.unusedVariables false
set_option linter.unusedSimpArgs false
def vW.j0 : Nat → Bool → Int → Int → Int → Int → Bool → Int → Option (Int × Bool)
 | 0, _, _, _, _, _, _, _ => none
 | k + 1, x14, x349000, x349001, x349002, x349003, x350000, x350001 => if x14 = true then (if x349003 = 2 then (if x350000 = true then (some (0, (x350001 == 0))) else (some (0, false))) else (some (0, false))) else (if x349003 = 1 then (if x350001 < (-4194304) then (some (wrap64 (x349002 - x350001), false)) else (if x350001 > 4194304 then (some (wrap64 (x349002 - x350001), false)) else (if (wrap64 (x349002 - x350001)) ≥ 0 then (if 0 ≤ x349001 then (some (wrap64 (x349002 - x350001), decide ((wrap64 (x349002 - x350001)) < (shl .i64 1 x349001)))) else (none)) else (some (wrap64 (x349002 - x350001), false))))) else (if x350001 < (-4194304) then (some (wrap64 (x350001 - x349002), false)) else (if x350001 > 4194304 then (some (wrap64 (x350001 - x349002), false)) else (if (wrap64 (x350001 - x349002)) ≥ 0 then (if 0 ≤ x349001 then (some (wrap64 (x350001 - x349002), decide ((wrap64 (x350001 - x349002)) < (shl .i64 1 x349001)))) else (none)) else (some (wrap64 (x350001 - x349002), false))))))
def vW.f (k : Nat) (a0_0 : Int) (a0_1 : Int) (a0_2 : Int) (a0_3 : Int) (a1_0 : Bool) (a1_1 : Int) : Option (Int × Bool) := if a0_3 = 2 then (vW.j0 k true a0_0 a0_1 a0_2 a0_3 a1_0 a1_1) else (vW.j0 k a1_0 a0_0 a0_1 a0_2 a0_3 a1_0 a1_1)
theorem vW.wj : ∀ k, (∀ y0 y1 y2 y3 y4 y5 y6, vP (vW.j0 k y0 y1 y2 y3 y4 y5 y6) (vW.j0 (k + 1) y0 y1 y2 y3 y4 y5 y6))
 | 0 => fun _ _ _ _ _ _ _ r h => by simp [vW.j0] at h
 | k + 1 => by
  have ih0 := vW.wj k
  ·intro y0 y1 y2 y3 y4 y5 y6
   unfold vW.j0
   repeat' first
   | (with_reducible exact ih0 _ _ _ _ _ _ _)
   | (with_reducible first | exact vP.refl _ | exact vP.none _ | apply vP.ite | refine vP.bind ?_ fun _ => ?_)
theorem vW.mono : ∀ a0 a1 a2 a3 a4 a5 k, vP (vW.f k a0 a1 a2 a3 a4 a5) (vW.f (k + 1) a0 a1 a2 a3 a4 a5) := by
 intro a0 a1 a2 a3 a4 a5 k
 have ih0 := vW.wj k
 unfold vW.f
 repeat' first
   | (with_reducible exact ih0 _ _ _ _ _ _ _)
   | (with_reducible first | exact vP.refl _ | exact vP.none _ | apply vP.ite | refine vP.bind ?_ fun _ => ?_)
set_option maxHeartbeats 8000000 in
set_option maxRecDepth 100000 in
theorem vW.calls (k : Nat) (a0_0 : Int) (a0_1 : Int) (a0_2 : Int) (a0_3 : Int) (a1_0 : Bool) (a1_1 : Int) (r1 : Int) (r2 : Bool) (w : World) (h : vW.f k a0_0 a0_1 a0_2 a0_3 a1_0 a1_1 = some (r1, r2)) :
  Calls Tryd.prog 60 #[.agg #[.int .i64 a0_0, .int .i64 a0_1, .int .i64 a0_2, .int .i64 a0_3], .agg #[.bool a1_0, .int .i64 a1_1]] w fun e w' => e = .returned (.tuple #[.int .i64 r1, .bool r2]) ∧ Below w.heap.size w w' := by
 have hu87 := Tryd.underlying87
 have hu64 := Tryd.underlying64
 have HB := Aside0.mk (Below.refl w.heap.size w)
 have H := h
 unfold vW.f at H
 clear h
 have HC3 := Aside0.mk H
 clear H
 go_enter Tryd.func60, Tryd.ntmps60
 go_upto_region 1 with (first | ((with_reducible refine gd 2 rfl ?_); refine bx 2 #[.int .i64 a0_0, .int .i64 a0_1, .int .i64 a0_2, .int .i64 a0_3] 87 rfl rfl ?_; intro gb348 hg w4 hbox hb; have n_ := aC (bs hb) (aC hbox (aC (gz hg) (aE (gz hg)))); clear HB; obtain ⟨HB, BK348, GW348, GE348⟩ := n_; clear hb hbox hg) | ((with_reducible refine gd 3 rfl ?_); refine bx 3 #[.bool a1_0, .int .i64 a1_1] 64 rfl rfl ?_; intro gb349 hg w5 hbox hb; have n_ := aC (vu (bU BK348.out) hb) (aC (bs hb) (aC hbox (aC (gz hg) (aC (gz hg) (aC (gn hg (bU BK348.out)) (aE (gm hg (bU BK348.out)))))))); clear BK348 HB; obtain ⟨BK348, HB, BK349, GW349, GE349, NB348_349, NB349_348⟩ := n_; clear hb hbox hg))
 (try simp only [Act.put, List.setIfInBounds_toArray, List.set_cons_zero, List.set_cons_succ])
 go_cut [14] (fun v14 wc => ∃ (kq : Nat) (x14_2 : Bool), v14 = .bool x14_2 ∧ Aside0 (vW.j0 kq x14_2 a0_0 a0_1 a0_2 a0_3 a1_0 a1_1 = some (r1, r2)) ∧ Aside0 (kq ≤ k) ∧ Aside0 (wc.heap[gb348]? = some (.cells #[.int .i64 a0_0, .int .i64 a0_1, .int .i64 a0_2, .int .i64 a0_3] 87 (0, 0))) ∧ Aside0 (wc.heap[gb349]? = some (.cells #[.bool a1_0, .int .i64 a1_1] 64 (0, 0))) ∧ Aside0 (Below w.heap.size w wc))
 case first =>
  have H := HC3.out
  clear HC3
  rcases iE H with H1 | H1 <;> clear H <;> obtain ⟨H, c6b0, c6b1, c6⟩ := H1
  ·(first | rw [c6b0] | (simp only [xD, zm]; rw [c6b0]) | skip)
   have H' := Aside0.mk H
   clear H
   have hnb7 := NB348_349.out
   have hnc7 := NB349_348.out
   obtain ⟨hcz8_0, hcz8_1, hcz8_2, hcz8_3, hfz8_0, hfz8_1, hfz8_2, hfz8_3⟩ := xC BK348.out
   go_wp2
   go_meet
   case rel => exact ⟨_, (true), rq, H', ⟨by first | omega | exact Nat.le_refl _⟩, ⟨bU BK348.out⟩, ⟨bU BK349.out⟩, ⟨bl⟩⟩
  ·(first | rw [c6b0] | (simp only [xD, zm]; rw [c6b0]) | skip)
   have H' := Aside0.mk H
   clear H
   have hnb9 := NB348_349.out
   have hnc9 := NB349_348.out
   obtain ⟨hcz10_0, hcz10_1, hcz10_2, hcz10_3, hfz10_0, hfz10_1, hfz10_2, hfz10_3⟩ := xC BK348.out
   obtain ⟨hcz11_0, hcz11_1, hfz11_0, hfz11_1⟩ := yt BK349.out
   go_wp2
   go_meet
   case rel => exact ⟨_, (a1_0), rq, H', ⟨by first | omega | exact Nat.le_refl _⟩, ⟨bU BK348.out⟩, ⟨bU BK349.out⟩, ⟨bl⟩⟩
 case rest =>
  clear HC3
  obtain ⟨kq, x14_2, rfl, HA, HJ2, BK348, BK349, HB⟩ := hcut
  cases kq with
  | zero => exact absurd HA.out (by simp [vW.j0])
  | succ kj2 =>
   have H := HA.out
   clear HA
   simp only [vW.j0] at H
   by_cases c12 : x14_2 = true
   ·subst c12
    rw [if_pos rfl] at H
    rcases iE H with H1 | H1 <;> clear H <;> obtain ⟨H, c13b0, c13b1, c13⟩ := H1
    ·by_cases c14 : a1_0 = true
     ·subst c14
      rw [if_pos rfl] at H
      simp only [Option.some.injEq, Prod.mk.injEq] at H
      obtain ⟨rfl, rfl⟩ := H
      have hnb15 := NB348_349.out
      have hnc15 := NB349_348.out
      obtain ⟨hcz16_0, hcz16_1, hcz16_2, hcz16_3, hfz16_0, hfz16_1, hfz16_2, hfz16_3⟩ := xC BK348.out
      obtain ⟨hcz17_0, hcz17_1, hfz17_0, hfz17_1⟩ := yt BK349.out
      go_wp2
      repeat (go_quiet (fail); try go_wp2)
      go_ret2
      exact ⟨re, bl⟩
     ·replace c14 := Bool.eq_false_iff.mpr c14
      subst c14
      rw [if_neg Bool.false_ne_true] at H
      simp only [Option.some.injEq, Prod.mk.injEq] at H
      obtain ⟨rfl, rfl⟩ := H
      have hnb18 := NB348_349.out
      have hnc18 := NB349_348.out
      obtain ⟨hcz19_0, hcz19_1, hcz19_2, hcz19_3, hfz19_0, hfz19_1, hfz19_2, hfz19_3⟩ := xC BK348.out
      obtain ⟨hcz20_0, hcz20_1, hfz20_0, hfz20_1⟩ := yt BK349.out
      go_wp2
      repeat (go_quiet (fail); try go_wp2)
      go_ret2
      exact ⟨re, bl⟩
    ·simp only [Option.some.injEq, Prod.mk.injEq] at H
     obtain ⟨rfl, rfl⟩ := H
     have hnb21 := NB348_349.out
     have hnc21 := NB349_348.out
     obtain ⟨hcz22_0, hcz22_1, hcz22_2, hcz22_3, hfz22_0, hfz22_1, hfz22_2, hfz22_3⟩ := xC BK348.out
     go_wp2
     repeat (go_quiet (fail); try go_wp2)
     go_ret2
     exact ⟨re, bl⟩
   ·replace c12 := Bool.eq_false_iff.mpr c12
    subst c12
    rw [if_neg Bool.false_ne_true] at H
    rcases iE H with H1 | H1 <;> clear H <;> obtain ⟨H, c23b0, c23b1, c23⟩ := H1
    ·rcases iL H with H1 | H1 <;> clear H <;> obtain ⟨H, c24b0⟩ := H1
     ·simp only [Option.some.injEq, Prod.mk.injEq] at H
      obtain ⟨rfl, rfl⟩ := H
      have hnb25 := NB349_348.out
      have hnc25 := NB348_349.out
      obtain ⟨hcz26_0, hcz26_1, hfz26_0, hfz26_1⟩ := yt BK349.out
      obtain ⟨hcz27_0, hcz27_1, hcz27_2, hcz27_3, hfz27_0, hfz27_1, hfz27_2, hfz27_3⟩ := xC BK348.out
      go_wp2
      repeat (go_quiet (fail); try go_wp2)
      go_ret2
      exact ⟨re, bl⟩
     ·rcases iL H with H1 | H1 <;> clear H <;> obtain ⟨H, c28b0⟩ := H1
      ·simp only [Option.some.injEq, Prod.mk.injEq] at H
       obtain ⟨rfl, rfl⟩ := H
       have hnb29 := NB349_348.out
       have hnc29 := NB348_349.out
       obtain ⟨hcz30_0, hcz30_1, hfz30_0, hfz30_1⟩ := yt BK349.out
       obtain ⟨hcz31_0, hcz31_1, hcz31_2, hcz31_3, hfz31_0, hfz31_1, hfz31_2, hfz31_3⟩ := xC BK348.out
       go_wp2
       repeat (go_quiet (fail); try go_wp2)
       go_ret2
       exact ⟨re, bl⟩
      ·rcases iL H with H1 | H1 <;> clear H <;> obtain ⟨H, c32b0⟩ := H1
       ·by_cases c33 : 0 ≤ a0_1
        ·rw [if_pos c33] at H
         have c33b0 := eq_true c33
         have c33b1 := decide_eq_true c33
         clear c33
         obtain ⟨ji34, hji34⟩ : ∃ j_ : Int, (shl .i64 1 a0_1) = j_ := ⟨_, rfl⟩
         replace H : (some (wrap64 (a0_2 - a1_1), decide ((wrap64 (a0_2 - a1_1)) < (ji34)))) = some (r1, r2) := by first | (rw [hji34] at H; exact H) | (simp only [hji34] at H ⊢; exact H)
         have hji34_ : (IntKind.i64.wrap (1 * 2 ^ min a0_1.toNat 64)) = ji34 := hji34
         have hji34z : a0_1 ≤ 64 → (IntKind.i64.wrap (1 * 2 ^ a0_1.toNat)) = ji34 := zv hji34
         have hji34u : (IntKind.i64.wrap (2 ^ min a0_1.toNat 64)) = ji34 := by have h_ := hji34_; rw [Int.one_mul] at h_; exact h_
         have hji34v : a0_1 ≤ 64 → (IntKind.i64.wrap (2 ^ a0_1.toNat)) = ji34 := fun hle_ => by have h_ := hji34z hle_; rw [Int.one_mul] at h_; exact h_
         have hji34y : (wrap64 (1 * 2 ^ min a0_1.toNat 64)) = ji34 := (xD _).symm.trans hji34_
         have hji34x : a0_1 ≤ 64 → (wrap64 (1 * 2 ^ a0_1.toNat)) = ji34 := fun h_ => (xD _).symm.trans (hji34z h_)
         simp only [Option.some.injEq, Prod.mk.injEq] at H
         obtain ⟨rfl, rfl⟩ := H
         have hnb35 := NB349_348.out
         have hnc35 := NB348_349.out
         obtain ⟨hcz36_0, hcz36_1, hfz36_0, hfz36_1⟩ := yt BK349.out
         obtain ⟨hcz37_0, hcz37_1, hcz37_2, hcz37_3, hfz37_0, hfz37_1, hfz37_2, hfz37_3⟩ := xC BK348.out
         go_wp2
         repeat (go_quiet (fail); try go_wp2)
         go_ret2
         exact ⟨by first | rfl | (simp [wL, wK] <;> rfl) | (simp only [← hji34]; first | rfl | (simp [wL, wK] <;> rfl)) | (simp [*, wL, wK] <;> rfl), bl⟩
        ·rw [if_neg c33] at H
         exact absurd H (by simp)
       ·simp only [Option.some.injEq, Prod.mk.injEq] at H
        obtain ⟨rfl, rfl⟩ := H
        have hnb38 := NB349_348.out
        have hnc38 := NB348_349.out
        obtain ⟨hcz39_0, hcz39_1, hfz39_0, hfz39_1⟩ := yt BK349.out
        obtain ⟨hcz40_0, hcz40_1, hcz40_2, hcz40_3, hfz40_0, hfz40_1, hfz40_2, hfz40_3⟩ := xC BK348.out
        go_wp2
        repeat (go_quiet (fail); try go_wp2)
        go_ret2
        exact ⟨re, bl⟩
    ·rcases iL H with H1 | H1 <;> clear H <;> obtain ⟨H, c41b0⟩ := H1
     ·simp only [Option.some.injEq, Prod.mk.injEq] at H
      obtain ⟨rfl, rfl⟩ := H
      have hnb42 := NB349_348.out
      have hnc42 := NB348_349.out
      obtain ⟨hcz43_0, hcz43_1, hfz43_0, hfz43_1⟩ := yt BK349.out
      obtain ⟨hcz44_0, hcz44_1, hcz44_2, hcz44_3, hfz44_0, hfz44_1, hfz44_2, hfz44_3⟩ := xC BK348.out
      go_wp2
      repeat (go_quiet (fail); try go_wp2)
      go_ret2
      exact ⟨re, bl⟩
     ·rcases iL H with H1 | H1 <;> clear H <;> obtain ⟨H, c45b0⟩ := H1
      ·simp only [Option.some.injEq, Prod.mk.injEq] at H
       obtain ⟨rfl, rfl⟩ := H
       have hnb46 := NB349_348.out
       have hnc46 := NB348_349.out
       obtain ⟨hcz47_0, hcz47_1, hfz47_0, hfz47_1⟩ := yt BK349.out
       obtain ⟨hcz48_0, hcz48_1, hcz48_2, hcz48_3, hfz48_0, hfz48_1, hfz48_2, hfz48_3⟩ := xC BK348.out
       go_wp2
       repeat (go_quiet (fail); try go_wp2)
       go_ret2
       exact ⟨re, bl⟩
      ·rcases iL H with H1 | H1 <;> clear H <;> obtain ⟨H, c49b0⟩ := H1
       ·by_cases c50 : 0 ≤ a0_1
        ·rw [if_pos c50] at H
         have c50b0 := eq_true c50
         have c50b1 := decide_eq_true c50
         clear c50
         obtain ⟨ji51, hji51⟩ : ∃ j_ : Int, (shl .i64 1 a0_1) = j_ := ⟨_, rfl⟩
         replace H : (some (wrap64 (a1_1 - a0_2), decide ((wrap64 (a1_1 - a0_2)) < (ji51)))) = some (r1, r2) := by first | (rw [hji51] at H; exact H) | (simp only [hji51] at H ⊢; exact H)
         have hji51_ : (IntKind.i64.wrap (1 * 2 ^ min a0_1.toNat 64)) = ji51 := hji51
         have hji51z : a0_1 ≤ 64 → (IntKind.i64.wrap (1 * 2 ^ a0_1.toNat)) = ji51 := zv hji51
         have hji51u : (IntKind.i64.wrap (2 ^ min a0_1.toNat 64)) = ji51 := by have h_ := hji51_; rw [Int.one_mul] at h_; exact h_
         have hji51v : a0_1 ≤ 64 → (IntKind.i64.wrap (2 ^ a0_1.toNat)) = ji51 := fun hle_ => by have h_ := hji51z hle_; rw [Int.one_mul] at h_; exact h_
         have hji51y : (wrap64 (1 * 2 ^ min a0_1.toNat 64)) = ji51 := (xD _).symm.trans hji51_
         have hji51x : a0_1 ≤ 64 → (wrap64 (1 * 2 ^ a0_1.toNat)) = ji51 := fun h_ => (xD _).symm.trans (hji51z h_)
         simp only [Option.some.injEq, Prod.mk.injEq] at H
         obtain ⟨rfl, rfl⟩ := H
         have hnb52 := NB349_348.out
         have hnc52 := NB348_349.out
         obtain ⟨hcz53_0, hcz53_1, hfz53_0, hfz53_1⟩ := yt BK349.out
         obtain ⟨hcz54_0, hcz54_1, hcz54_2, hcz54_3, hfz54_0, hfz54_1, hfz54_2, hfz54_3⟩ := xC BK348.out
         go_wp2
         repeat (go_quiet (fail); try go_wp2)
         go_ret2
         exact ⟨by first | rfl | (simp [wL, wK] <;> rfl) | (simp only [← hji51]; first | rfl | (simp [wL, wK] <;> rfl)) | (simp [*, wL, wK] <;> rfl), bl⟩
        ·rw [if_neg c50] at H
         exact absurd H (by simp)
       ·simp only [Option.some.injEq, Prod.mk.injEq] at H
        obtain ⟨rfl, rfl⟩ := H
        have hnb55 := NB349_348.out
        have hnc55 := NB348_349.out
        obtain ⟨hcz56_0, hcz56_1, hfz56_0, hfz56_1⟩ := yt BK349.out
        obtain ⟨hcz57_0, hcz57_1, hcz57_2, hcz57_3, hfz57_0, hfz57_1, hfz57_2, hfz57_3⟩ := xC BK348.out
        go_wp2
        repeat (go_quiet (fail); try go_wp2)
        go_ret2
        exact ⟨re, bl⟩
def xk.f (a0_0 : Int) (a0_1 : Int) (a0_2 : Int) (a0_3 : Int) : Option (Bool) := some (decide (a0_0 > 0))
set_option maxHeartbeats 8000000 in
set_option maxRecDepth 100000 in
theorem xk.calls (a0_0 : Int) (a0_1 : Int) (a0_2 : Int) (a0_3 : Int) (r : Bool) (w : World) (h : xk.f a0_0 a0_1 a0_2 a0_3 = some r) :
  Calls Tryd.prog 61 #[.agg #[.int .i64 a0_0, .int .i64 a0_1, .int .i64 a0_2, .int .i64 a0_3]] w fun e w' => e = .returned (.bool r) ∧ Below w.heap.size w w' := by
 have hu87 := Tryd.underlying87
 have HB := Aside0.mk (Below.refl w.heap.size w)
 have H : (some (decide (a0_0 > 0))) = some r := h
 clear h
 obtain rfl := Option.some.inj H
 go_enter Tryd.func61, Tryd.ntmps61
 go_wp2_with (first | ((with_reducible refine gd 1 rfl ?_); refine bx 1 #[.int .i64 a0_0, .int .i64 a0_1, .int .i64 a0_2, .int .i64 a0_3] 87 rfl rfl ?_; intro gb350 hg w2 hbox hb; have n_ := aC (bs hb) (aC hbox (aC (gz hg) (aE (gz hg)))); clear HB; obtain ⟨HB, BK350, GW350, GE350⟩ := n_; clear hb hbox hg; obtain ⟨hcz3_0, hcz3_1, hcz3_2, hcz3_3, hfz3_0, hfz3_1, hfz3_2, hfz3_3⟩ := xC BK350.out))
 go_ret
 exact ⟨re, bl⟩
def vO.l0 : Nat → Int → List Int → Int → Option (List Int)
 | 0, _, _, _ => none
 | k + 1, x0, x5, x6 => if x6 ≥ 0 then (if 0 ≤ x6 then (if x5.length < 140737488355328 then (vO.l0 k x0 (x5 ++ [(Int.tmod (shr .i64 x0 x6) 2) % 256]) (wrap64 (x6 - 1))) else (none)) else (none)) else (some x5)
def vO.f (k : Nat) (a0 : Int) (a1 : Int) : Option (List Int) := vO.l0 k a0 ([] : List Int) (wrap64 (a1 - 1))
theorem vO.wj : ∀ k, (∀ y0 y1 y2, vP (vO.l0 k y0 y1 y2) (vO.l0 (k + 1) y0 y1 y2))
 | 0 => fun _ _ _ r h => by simp [vO.l0] at h
 | k + 1 => by
  have ih0 := vO.wj k
  ·intro y0 y1 y2
   unfold vO.l0
   repeat' first
   | (with_reducible exact ih0 _ _ _)
   | (with_reducible first | exact vP.refl _ | exact vP.none _ | apply vP.ite | refine vP.bind ?_ fun _ => ?_)
theorem vO.mono : ∀ a0 a1 k, vP (vO.f k a0 a1) (vO.f (k + 1) a0 a1) := by
 intro a0 a1 k
 have ih0 := vO.wj k
 unfold vO.f
 repeat' first
   | (with_reducible exact ih0 _ _ _)
   | (with_reducible first | exact vP.refl _ | exact vP.none _ | apply vP.ite | refine vP.bind ?_ fun _ => ?_)
set_option maxHeartbeats 8000000 in
set_option maxRecDepth 100000 in
theorem vO.calls (k : Nat) (a0 : Int) (a1 : Int) (r : List Int) (w : World) (h : vO.f k a0 a1 = some r) :
  Calls Tryd.prog 63 #[.int .i64 a0, .int .i64 a1] w fun e w' => ∃ v0_ : Value, e = .returned (v0_) ∧ Kd.R (Kd.int .u8) 5 w' w.heap.size (fun _ => True) v0_ r ∧ Below w.heap.size w w' := by
 have HB := Aside0.mk (Below.refl w.heap.size w)
 have H : (vO.l0 k a0 ([] : List Int) (wrap64 (a1 - 1))) = some r := h
 clear h
 have H' := Aside0.mk H
 clear H
 go_enter Tryd.func63, Tryd.ntmps63
 go_wp2
 go_loopg [5, 6] k (fun kq v5 v6 w' => ∃ (x5_1 : List Int) (x6_1 : Int), v6 = .int .i64 x6_1 ∧ Aside0 (vO.l0 kq a0 x5_1 x6_1 = some r) ∧ Aside0 (kq ≤ k) ∧ Aside0 (Kd.R (Kd.int .u8) 5 w' w.heap.size (fun _ => True) v5 x5_1) ∧ Aside0 (Below w.heap.size w w'))
 case atStart => exact ⟨(([] : List Int)), (wrap64 (a1 - 1)), rq, H', ⟨Nat.le_refl _⟩, ⟨by first | exact Kd.yC _ _ _ _ _ | exact Kd.za _ _ _ _ _ | exact Kd.y9 _ _ _ _ _ | exact Kd.zb _ _ _ _ _ | exact Kd.yZ _ _ _ _ _⟩, ⟨bl⟩⟩
 case round =>
  clear H'
  obtain ⟨x5_1, x6_1, rfl, HA, HK1, HO_5, HB⟩ := hrel
  cases gk with
  | zero => exact absurd HA.out (by simp [vO.l0])
  | succ k1 =>
   have H := HA.out
   clear HA
   simp only [vO.l0] at H
   rcases iL H with H1 | H1 <;> clear H <;> obtain ⟨H, c3b0⟩ := H1
   ·by_cases c4 : 0 ≤ x6_1
    ·rw [if_pos c4] at H
     have c4b0 := eq_true c4
     have c4b1 := decide_eq_true c4
     clear c4
     obtain ⟨ji5, hji5⟩ : ∃ j_ : Int, (shr .i64 a0 x6_1) = j_ := ⟨_, rfl⟩
     replace H : (if x5_1.length < 140737488355328 then (vO.l0 k1 a0 (x5_1 ++ [(Int.tmod (ji5) 2) % 256]) (wrap64 (x6_1 - 1))) else (none)) = some r := by first | (rw [hji5] at H; exact H) | (simp only [hji5] at H ⊢; exact H)
     have hji5_ : (a0 / 2 ^ min x6_1.toNat 64) = ji5 := hji5
     have hji5z : x6_1 ≤ 64 → (a0 / 2 ^ x6_1.toNat) = ji5 := jJ hji5
     by_cases c6 : x5_1.length < 140737488355328
     ·rw [if_pos c6] at H
      have LMc6 := Aside0.mk c6
      clear c6
      obtain ⟨y351, hy_⟩ : ∃ y_ : List Int, y_ = (x5_1 ++ [(Int.tmod (ji5) 2) % 256]) := ⟨_, rfl⟩
      replace H : (vO.l0 k1 a0 y351 (wrap64 (x6_1 - 1))) = some r := rh
      have Ny351 := aE hy_
      clear hy_
      have H' := Aside0.mk H
      clear H
      go_wp2_with (first | ((with_reducible refine xb (b := .append) (xs := #[.tmp 13, .tmp 19]) rfl ?_); at_builtin; refine Kd.zf (Kd.int .u8) (w0 := w) w.heap.size rfl (.tmp 13) (.tmp 19) 22 5 (.int .u8 0) 1 rfl Tryd.underlying22 info5 rfl (by decide) (by omega) u5 x5_1 ((Int.tmod (ji5) 2) % 256) [.int .u8 ((Int.tmod (ji5) 2) % 256)] (fun _ => True) (fun _ => False) rfl rfl ?aP (fun _ hk => hk.elim) ?aF ?aO ?aB ?aS ?aL ?_; (case aP => exact rfl); (case aB => exact bl); (case aF => exact (fun _ _ => trivial)); (case aO => exact (rU HO_5.out)); (case aS => exact bz); (case aL => have := LMc6.out; omega); intro v352 w7 ho hb hg hat; rw [← Ny351.out] at ho; have n_ := aC hb (aE ho); clear HB HO_5; obtain ⟨HB, HO353⟩ := n_; clear ho hb hg hat))
      go_roundg k1
      case measure => have := HK1.out; omega
      case rel => exact ⟨(y351), (wrap64 (x6_1 - 1)), rq, H', ⟨by have := HK1.out; omega⟩, ⟨rU HO353.out⟩, ⟨bl⟩⟩
     ·rw [if_neg c6] at H
      exact absurd H (by simp)
    ·rw [if_neg c4] at H
     exact absurd H (by simp)
   ·obtain rfl := Option.some.inj H
    go_wp2
    go_ret
    exact ⟨_, re, rU HO_5.out, bl⟩
end Go.Proofs.YtknclbodinfbeaaDoor.PRunsSame
