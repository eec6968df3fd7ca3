-- printed (wip/tools/myprint.py)
import Derived.Test.YtnnbfkmmjclhaaaPScanSpecksx0
import Derived.Test.YtnnbfkmmjclhaaaPScanSpecksx8
import Derived.Test.YtnnbfkmmjclhaaaPScanSpecksx10
namespace Go.Proofs.Ytnnbfkmmjclhaaa.PScanSpecks
open Go.RowKit Go.Proofs.YtnnbfkmmjclhaaaW.PrintWords Go.Proofs.YtnnbfkmmjclhaaaW.PrintLast Go.Proofs.YtnnbfkmmjclhaaaW.PrintMore
attribute [local go_sem] max2_int min2_int max_two min_two max_three min_three max_four min_four
set_option linter.unusedVariables false
set_option linter.unusedSimpArgs false
mutual
def incunableref29_Despeckle.l0 : Nat → Int → List Int → List Int → Int → Int → Int → List Int → Option (Int × Int × List Int × Int)
 | 0, _, _, _, _, _, _, _ => none
 | k + 1, x1, x6, x8, x9, x330000, x330001, x330002 => if x9 < (x6.length : Int) then (if 0 ≤ x9 then (if 0 ≤ (rd x6 x9) then (if (rd x6 x9) < (x8.length : Int) then (incunableref29_Despeckle.l0 k x1 x6 (x8.set ((rd x6 x9) : Int).toNat (wrap64 ((rd x8 (rd x6 x9)) + 1))) (wrap64 (x9 + 1)) x330000 x330001 x330002) else (none)) else (none)) else (none)) else ((incunableref05_Copy.f x330000 x330001 x330002).bind fun bt342 => (incunableref29_Despeckle.l1 k x1 x6 x8 0 bt342.1 bt342.2.1 bt342.2.2))
def incunableref29_Despeckle.l1 : Nat → Int → List Int → List Int → Int → Int → Int → List Int → Option (Int × Int × List Int × Int)
 | 0, _, _, _, _, _, _, _ => none
 | k + 1, x1, x6, x8, x11, x348000, x348001, x348002 => if x11 < (x6.length : Int) then (if 0 ≤ x11 then (if (rd x6 x11) > 0 then (if 0 ≤ (rd x6 x11) then (if (rd x6 x11) < (x8.length : Int) then (if (rd x8 (rd x6 x11)) ≤ x1 then (if x11 < (x348002.length : Int) then (incunableref29_Despeckle.l1 k x1 x6 x8 (wrap64 (x11 + 1)) x348000 x348001 (x348002.set (x11 : Int).toNat 0)) else (none)) else (incunableref29_Despeckle.l1 k x1 x6 x8 (wrap64 (x11 + 1)) x348000 x348001 x348002)) else (none)) else (none)) else (incunableref29_Despeckle.l1 k x1 x6 x8 (wrap64 (x11 + 1)) x348000 x348001 x348002)) else (none)) else (some (x348000, x348001, x348002, 0))
end
def incunableref29_Despeckle.f (k : Nat) (a0_0 : Int) (a0_1 : Int) (l0_2 : List Int) (a1 : Int) : Option (Int × Int × List Int × Int) := (incunableref05_Valid.f k a0_0 a0_1 l0_2).bind fun t331 => (if t331 = true then (if a1 < 0 then (some (0, 0, ([] : List Int), 2)) else ((incunableref15_Marks.f k a0_0 a0_1 l0_2).bind fun bt332 => (if 0 ≤ (wrap64 (bt332.2 + 1)) then (if (wrap64 (bt332.2 + 1) : Int).toNat ≤ 35184372088832 then (incunableref29_Despeckle.l0 k a1 bt332.1 (List.replicate (wrap64 (bt332.2 + 1) : Int).toNat 0) 0 a0_0 a0_1 l0_2) else (none)) else (none)))) else (some (0, 0, ([] : List Int), 30)))
theorem incunableref29_Despeckle.mono_l : ∀ k, (∀ y0 y1 y2 y3 y4 y5 y6, LeO (incunableref29_Despeckle.l0 k y0 y1 y2 y3 y4 y5 y6) (incunableref29_Despeckle.l0 (k + 1) y0 y1 y2 y3 y4 y5 y6)) ∧ (∀ y0 y1 y2 y3 y4 y5 y6, LeO (incunableref29_Despeckle.l1 k y0 y1 y2 y3 y4 y5 y6) (incunableref29_Despeckle.l1 (k + 1) y0 y1 y2 y3 y4 y5 y6))
 | 0 => ⟨fun _ _ _ _ _ _ _ r h => by simp [incunableref29_Despeckle.l0] at h, fun _ _ _ _ _ _ _ r h => by simp [incunableref29_Despeckle.l1] at h⟩
 | k + 1 => by
  obtain ⟨ih0, ih1⟩ := incunableref29_Despeckle.mono_l k
  refine ⟨?_, ?_⟩
  ·intro y0 y1 y2 y3 y4 y5 y6
   unfold incunableref29_Despeckle.l0
   repeat' first
   | (with_reducible exact ih0 _ _ _ _ _ _ _)
   | (with_reducible exact ih1 _ _ _ _ _ _ _)
   | (with_reducible exact incunableref05_Valid.mono _ _ _ _)
   | (with_reducible exact incunableref15_Marks.mono _ _ _ _)
   | (with_reducible first | exact LeO.refl _ | exact LeO.none _ | refine LeO.ite ?_ ?_ | refine LeO.bind ?_ (fun _ => ?_))
  ·intro y0 y1 y2 y3 y4 y5 y6
   unfold incunableref29_Despeckle.l1
   repeat' first
   | (with_reducible exact ih0 _ _ _ _ _ _ _)
   | (with_reducible exact ih1 _ _ _ _ _ _ _)
   | (with_reducible exact incunableref05_Valid.mono _ _ _ _)
   | (with_reducible exact incunableref15_Marks.mono _ _ _ _)
   | (with_reducible first | exact LeO.refl _ | exact LeO.none _ | refine LeO.ite ?_ ?_ | refine LeO.bind ?_ (fun _ => ?_))
theorem incunableref29_Despeckle.mono : ∀ a0 a1 a2 a3 k, LeO (incunableref29_Despeckle.f k a0 a1 a2 a3) (incunableref29_Despeckle.f (k + 1) a0 a1 a2 a3) := by
 intro a0 a1 a2 a3 k
 obtain ⟨ih0, ih1⟩ := incunableref29_Despeckle.mono_l k
 unfold incunableref29_Despeckle.f
 repeat' first
   | (with_reducible exact ih0 _ _ _ _ _ _ _)
   | (with_reducible exact ih1 _ _ _ _ _ _ _)
   | (with_reducible exact incunableref05_Valid.mono _ _ _ _)
   | (with_reducible exact incunableref15_Marks.mono _ _ _ _)
   | (with_reducible first | exact LeO.refl _ | exact LeO.none _ | refine LeO.ite ?_ ?_ | refine LeO.bind ?_ (fun _ => ?_))
set_option maxHeartbeats 8000000 in
set_option maxRecDepth 100000 in
theorem incunableref29_Despeckle.calls (k : Nat) (a0_0 : Int) (a0_1 : Int) (A0_2 : Option Addr) (c0_2 : Nat) (l0_2 : List Int) (a1 : Int) (r1 : Int) (r2 : Int) (r3 : List Int) (r4 : Int) (w : World) (hr0_2 : Kd.C (Kd.int .u8) w A0_2 l0_2.length l0_2) (hc0_2 : l0_2.length ≤ c0_2) (h : incunableref29_Despeckle.f k a0_0 a0_1 l0_2 a1 = some (r1, r2, r3, r4)) :
  Calls Try.prog 6 #[.agg #[.int .i64 a0_0, .int .i64 a0_1, .slice A0_2 l0_2.length c0_2], .int .i64 a1] w fun e w' => ∃ v2_ : Value, e = .returned (.tuple #[.agg #[.int .i64 r1, .int .i64 r2, v2_], .int .i64 r4]) ∧ Kd.R (Kd.int .u8) 5 w' w.heap.size (fun _ => True) v2_ r3 ∧ Below w.heap.size w w' := by
 have hu24 := Try.underlying24
 have HR0_2 := Aside0.mk hr0_2
 have HC0_2 := Aside0.mk hc0_2
 clear hr0_2 hc0_2
 have HB := Aside0.mk (Below.refl w.heap.size w)
 have H := h
 unfold incunableref29_Despeckle.f at H
 clear h
 obtain ⟨t331, A3, H⟩ := oB H
 try dsimp only at H
 by_cases c4 : t331 = true
 ·subst c4
  rw [if_pos rfl] at H
  rcases iL H with H1 | H1 <;> clear H <;> obtain ⟨H, c5b0⟩ := H1
  ·simp only [Option.some.injEq, Prod.mk.injEq] at H
   obtain ⟨rfl, rfl, rfl, rfl⟩ := H
   go_enter Try.func6, Try.ntmps6
   go_wp2_with (first | ((with_reducible refine gd 2 rfl ?_); refine bx 2 #[.int .i64 a0_0, .int .i64 a0_1, .slice A0_2 l0_2.length c0_2] 24 rfl rfl ?_; intro gb329 hg w6 hbox hb; have n_ := aC (bs hb) (aC hbox (aC (gz hg) (aE (gz hg)))); clear HB; obtain ⟨HB, BK329, GW329, GE329⟩ := n_; clear hb hbox hg) | ((with_reducible refine gd 4 rfl ?_); refine bx 4 #[.int .i64 0, .int .i64 0, .slice none 0 0] 24 rfl rfl ?_; intro gb330 hg w7 hbox hb; have n_ := aC (blk_below (bU BK329.out) hb) (aC (bs hb) (aC hbox (aC (gz hg) (aC (gz hg) (aC (gn hg (bU BK329.out)) (aE (gm hg (bU BK329.out)))))))); clear BK329 HB; obtain ⟨BK329, HB, BK330, GW330, GE330, NB329_330, NB330_329⟩ := n_; clear hb hbox hg; have hnb8 := NB329_330.out; have hnc8 := NB330_329.out; obtain ⟨hcz9_0, hcz9_1, hcz9_2, hfz9_0, hfz9_1, hfz9_2⟩ := cz3f BK329.out) | ((with_reducible refine gf 18 rfl ?_); refine gL (some 13) rfl rfl Try.func18 rfl #[.agg #[.int .i64 a0_0, .int .i64 a0_1, .slice A0_2 l0_2.length c0_2]] rfl ?_; (with_reducible refine (incunableref05_Valid.calls k a0_0 a0_1 _ _ l0_2 true _ ?side1 ?side2 A3.out).mono ?_); (case side1 => exact cU (Kd.C_below HR0_2.out HB.out)); (case side2 => exact HC0_2.out); rintro e w10 ⟨rfl, hb⟩; refine ⟨_, rfl, ?_⟩; have n_ := aC (blk_below (bU BK329.out) hb) (aC (blk_below (bU BK330.out) hb) (aE (bs hb))); clear BK329 BK330 HB; obtain ⟨BK329, BK330, HB⟩ := n_; obtain ⟨hcz11_0, hcz11_1, hcz11_2, hfz11_0, hfz11_1, hfz11_2⟩ := cz3f BK330.out))
   refine bodyPost_ret (results_ct rfl _ _ gb330 24 #[.int .i64 0, .int .i64 0, .slice none 0 0] (0, 0) _ rfl (by (with_reducible repeat (first | refine blk_drewN ?_ _ | refine blk_drew ?_ | refine blk_alloc ?_ _)); refine blk_put (cs := #[.int .i64 0, .int .i64 0, .slice none 0 0]) ?_ 2 _ rfl; (with_reducible repeat (first | refine blk_drewN ?_ _ | refine blk_drew ?_ | refine blk_alloc ?_ _)); refine blk_put (cs := #[.int .i64 0, .int .i64 0, .slice none 0 0]) ?_ 1 _ rfl; (with_reducible repeat (first | refine blk_drewN ?_ _ | refine blk_drew ?_ | refine blk_alloc ?_ _)); refine blk_put (cs := #[.int .i64 0, .int .i64 0, .slice none 0 0]) ?_ 0 _ rfl; exact bU BK330.out) Try.underlying24 rfl (by kernel_rfl)) rfl ?_
   exact ⟨_, re, by first | exact Kd.R_nil _ _ _ _ _ | exact Kd.N_nil _ _ _ _ _ | exact Kd.V_nil _ _ _ _ _ | exact Kd.Q_nil _ _ _ _ _ | exact Kd.S_nil _ _ _ _ _, bl⟩
  ·obtain ⟨⟨t332, t335⟩, A12, H⟩ := oB H
   try dsimp only at H
   obtain ⟨ji13, hji13⟩ : ∃ j_ : Int, (wrap64 (t335 + 1)) = j_ := ⟨_, rfl⟩
   replace H : (if 0 ≤ (ji13) then (if (ji13 : Int).toNat ≤ 35184372088832 then (incunableref29_Despeckle.l0 k a1 t332 (List.replicate (ji13 : Int).toNat 0) 0 a0_0 a0_1 l0_2) else (none)) else (none)) = some (r1, r2, r3, r4) := by first | (rw [hji13] at H; exact H) | (simp only [hji13] at H ⊢; exact H)
   (try rw [hji13] at A3)
   (try rw [hji13] at A12)
   have hji13w : (IntKind.i64.wrap (t335 + 1)) = ji13 := (i64_w _).trans hji13
   by_cases c14 : 0 ≤ (ji13)
   ·rw [if_pos c14] at H
    have c14b0 := eq_true c14
    have c14b1 := decide_eq_true c14
    clear c14
    by_cases c15 : (ji13 : Int).toNat ≤ 35184372088832
    ·rw [if_pos c15] at H
     have c15b0 := eq_true c15
     have c15b1 := decide_eq_true c15
     clear c15
     obtain ⟨y336, hy_⟩ : ∃ y_ : List Int, y_ = (List.replicate (ji13 : Int).toNat 0) := ⟨_, rfl⟩
     replace H : (incunableref29_Despeckle.l0 k a1 t332 y336 0 a0_0 a0_1 l0_2) = some (r1, r2, r3, r4) := rh
     have Ny336 := aE hy_
     clear hy_
     have H' := Aside0.mk H
     clear H
     go_enter Try.func6, Try.ntmps6
     go_wp2_with (first | ((with_reducible refine gd 2 rfl ?_); refine bx 2 #[.int .i64 a0_0, .int .i64 a0_1, .slice A0_2 l0_2.length c0_2] 24 rfl rfl ?_; intro gb329 hg w16 hbox hb; have n_ := aC (bs hb) (aC hbox (aC (gz hg) (aE (gz hg)))); clear HB; obtain ⟨HB, BK329, GW329, GE329⟩ := n_; clear hb hbox hg) | ((with_reducible refine gd 4 rfl ?_); refine bx 4 #[.int .i64 0, .int .i64 0, .slice none 0 0] 24 rfl rfl ?_; intro gb330 hg w17 hbox hb; have n_ := aC (blk_below (bU BK329.out) hb) (aC (bs hb) (aC hbox (aC (gz hg) (aC (gz hg) (aC (gn hg (bU BK329.out)) (aE (gm hg (bU BK329.out)))))))); clear BK329 HB; obtain ⟨BK329, HB, BK330, GW330, GE330, NB329_330, NB330_329⟩ := n_; clear hb hbox hg; have hnb18 := NB329_330.out; have hnc18 := NB330_329.out; obtain ⟨hcz19_0, hcz19_1, hcz19_2, hfz19_0, hfz19_1, hfz19_2⟩ := cz3f BK329.out) | ((with_reducible refine gf 18 rfl ?_); refine gL (some 13) rfl rfl Try.func18 rfl #[.agg #[.int .i64 a0_0, .int .i64 a0_1, .slice A0_2 l0_2.length c0_2]] rfl ?_; (with_reducible refine (incunableref05_Valid.calls k a0_0 a0_1 _ _ l0_2 true _ ?side1 ?side2 A3.out).mono ?_); (case side1 => exact cU (Kd.C_below HR0_2.out HB.out)); (case side2 => exact HC0_2.out); rintro e w20 ⟨rfl, hb⟩; refine ⟨_, rfl, ?_⟩; have n_ := aC (blk_below (bU BK329.out) hb) (aC (blk_below (bU BK330.out) hb) (aE (bs hb))); clear BK329 BK330 HB; obtain ⟨BK329, BK330, HB⟩ := n_; obtain ⟨hcz21_0, hcz21_1, hcz21_2, hfz21_0, hfz21_1, hfz21_2⟩ := cz3f BK329.out) | ((with_reducible refine gf 19 rfl ?_); refine gL (some 21) rfl rfl Try.func19 rfl #[.agg #[.int .i64 a0_0, .int .i64 a0_1, .slice A0_2 l0_2.length c0_2]] rfl ?_; (with_reducible refine (incunableref15_Marks.calls k a0_0 a0_1 _ _ l0_2 t332 t335 _ ?side1 ?side2 A12.out).mono ?_); (case side1 => exact cU (Kd.C_below HR0_2.out HB.out)); (case side2 => exact HC0_2.out); rintro e w22 ⟨v333, rfl, ho0, hb⟩; refine ⟨_, rfl, ?_⟩; have n_ := aC (Kd.R_lower ho0 bz) (aC (blk_below (bU BK329.out) hb) (aC (blk_below (bU BK330.out) hb) (aE (bs hb)))); clear BK329 BK330 HB; obtain ⟨HO334, BK329, BK330, HB⟩ := n_) | ((with_reducible refine gd 26 rfl ?_); refine Kd.R_make (Kd.int .i64) _ 3 rfl (N := 26) rfl 38 _ _ rfl ji13 rfl rfl Try.underlying38 (.int .i64 0) 8 info3 rfl (by decide) (by omega) 0 (ok := fun _ => True) (okp := fun _ => True) rfl (fun _ hk => hk) trivial (dt) (Nat.le_trans (Nat.mul_le_mul_right _ (dt : ji13.toNat ≤ 35184372088832)) (by omega)) (Below.refl _ _) (Nat.le_refl _) ?_; intro v337 w23 ho24 hb hg_ hnew_; clear hg_ hnew_; (first | rw [← Ny336.out] at ho24 | (simp only [Int.reduceToNat] at ho24; rw [← Ny336.out] at ho24)); have n_ := aC (Kd.R_elder' (rU HO334.out) (Kd.R_base ho24) hb) (aC (Kd.R_lower (Kd.R_new' ho24 (Kd.R_lt (rU HO334.out))) bz) (aC (blk_below (bU BK329.out) hb) (aC (blk_below (bU BK330.out) hb) (aE (bs hb))))); clear HO334 BK329 BK330 HB; obtain ⟨HO334, HO338, BK329, BK330, HB⟩ := n_; clear hb ho24))
     go_loopg [9] k (fun kq v9 w' => ∃ (x8_1 : List Int) (x9_1 : Int), v9 = .int .i64 x9_1 ∧ Aside0 (incunableref29_Despeckle.l0 kq a1 t332 x8_1 x9_1 a0_0 a0_1 l0_2 = some (r1, r2, r3, r4)) ∧ Aside0 (kq ≤ k) ∧ Aside0 (Kd.R (Kd.int .i64) 3 w' w.heap.size (fun k_ => some k_ ≠ (v337 : Value).ownBlock) v333 t332) ∧ Aside0 (Kd.R (Kd.int .i64) 3 w' w.heap.size (fun k_ => some k_ ≠ (v333 : Value).ownBlock) v337 x8_1) ∧ Aside0 (w'.heap[gb329]? = some (.cells #[.int .i64 a0_0, .int .i64 a0_1, (.slice A0_2 l0_2.length c0_2)] 24 (0, 0))) ∧ Aside0 (w'.heap[gb330]? = some (.cells #[.int .i64 0, .int .i64 0, (.slice none 0 0)] 24 (0, 0))) ∧ Aside0 (Below w.heap.size w w'))
     case atStart => exact ⟨(y336), (0), rq, H', ⟨Nat.le_refl _⟩, ⟨rU (Kd.R_mono HO334.out (fun _ hk => hk.2))⟩, ⟨rU (Kd.R_mono HO338.out (fun _ hk => hk.2))⟩, ⟨by exact bU BK329.out⟩, ⟨by exact bU BK330.out⟩, ⟨bl⟩⟩
     case round =>
      clear H'
      obtain ⟨x8_1, x9_1, rfl, HA, HK1, HO_6, HO_8, BK329, BK330, HB⟩ := hrel
      cases gk with
      | zero => exact absurd HA.out (by simp [incunableref29_Despeckle.l0])
      | succ k1 =>
       have H := HA.out
       clear HA
       simp only [incunableref29_Despeckle.l0] at H
       rcases iL H with H1 | H1 <;> clear H <;> obtain ⟨H, c25b0⟩ := H1
       ·by_cases c26 : 0 ≤ x9_1
        ·rw [if_pos c26] at H
         have c26b0 := decide_eq_true c26
         clear c26
         by_cases c27 : 0 ≤ (rd t332 x9_1)
         ·rw [if_pos c27] at H
          have c27b0 := decide_eq_true c27
          clear c27
          by_cases c28 : (rd t332 x9_1) < (x8_1.length : Int)
          ·rw [if_pos c28] at H
           have c28b0 := decide_eq_true c28
           clear c28
           obtain ⟨y341, hy_⟩ : ∃ y_ : List Int, y_ = (x8_1.set ((rd t332 x9_1) : Int).toNat (wrap64 ((rd x8_1 (rd t332 x9_1)) + 1))) := ⟨_, rfl⟩
           replace H : (incunableref29_Despeckle.l0 k1 a1 t332 y341 (wrap64 (x9_1 + 1)) a0_0 a0_1 l0_2) = some (r1, r2, r3, r4) := rh
           have Ny341 := aE hy_
           clear hy_
           have H' := Aside0.mk H
           clear H
           obtain ⟨Ao30, co30, eo30⟩ := Kd.R_slice HO_6.out
           subst eo30
           have p339 : 0 ≤ (x9_1 : Int) := dt
           have q339 : x9_1 < (t332.length : Int) := dt
           obtain ⟨ad339, e339, hx339_0⟩ := Kd.at_int (Kd.R_reads' HO_6.out).2.2 x9_1 p339 q339
           cases e339
           replace p339 := eq_true p339
           replace q339 := eq_true q339
           obtain ⟨Ao31, co31, eo31⟩ := Kd.R_slice HO_8.out
           subst eo31
           have p340 : 0 ≤ ((rd t332 x9_1) : Int) := dt
           have q340 : (rd t332 x9_1) < (x8_1.length : Int) := dt
           obtain ⟨ad340, e340, hx340_0⟩ := Kd.at_int (Kd.R_reads' HO_8.out).2.2 (rd t332 x9_1) p340 q340
           cases e340
           replace p340 := eq_true p340
           replace q340 := eq_true q340
           have p29 : 0 ≤ ((rd t332 x9_1) : Int) := dt
           have q29 : ((rd t332 x9_1) : Int) < ((x8_1.length : Int) : Int) := dt
           obtain ⟨go29, co29, eo29, gb29, gl29, cl29, HG29⟩ := Kd.R_form HO_8.out (by omega)
           (first | cases eo29 | (injection eo29 with ea_ en_ ec_; (first | subst ea_ | (injection ea_ with ea_; subst ea_)); subst ec_; clear en_))
           have GB29 := Aside0.mk gb29
           have GG29 := Aside0.mk HG29
           clear gb29 gl29 HG29
           (first | simp only [add_plain] at hx340_0 | skip)
           obtain ⟨hx29_0, hf29_0⟩ := Kd.R_celln 0 HO_8.out ((rd t332 x9_1) : Int) p29 q29
           replace p29 := eq_true p29
           replace q29 := eq_true q29
           have HP32 := Kd.R_putg HO_8.out ((rd t332 x9_1) : Int) (wrap64 ((rd x8_1 (rd t332 x9_1)) + 1))
           go_wp2_with (first | ((with_reducible refine gate_store (t := 3) (p := 41) rfl ?_); refine store_event (t := 3) (p := 41) (v := ?vo_w33) (w1 := (wr.setCell ⟨go29, ((rd t332 x9_1) : Int).toNat, none⟩ (.int .i64 (wrap64 ((rd x8_1 (rd t332 x9_1)) + 1))))) ?hg ?ho ?hn ?hr ?_; (case ho => rfl); (case hg => rfl); (case hn => rfl); (case hr => first | (go_simp; done) | (go_simp; rfl)); intro w33 hw; have hg : wr.grownBy w33 (some go29) := (by rw [hw]; exact HP32.2); have hp_ : Kd.R (Kd.int .i64) 3 w33 w.heap.size (fun k_ => some k_ ≠ (.slice (some ad339) t332.length co30 : Value).ownBlock) (.slice (some ⟨go29, 0, none⟩) x8_1.length co31) y341 := (by rw [hw, Ny341.out]; exact HP32.1); clear HP32; have n_ := aC (Kd.R_after (v := (.slice (some ⟨go29, 0, none⟩) x8_1.length co31)) (v1 := (.slice (some ⟨go29, 0, none⟩) x8_1.length co31)) (ok := (fun _ => True)) (rU (Kd.R_mono HO_6.out (fun _ hk => ⟨trivial, hk⟩))) hg (.inl rfl)) (aC hp_ (aC (blk_grown (bU BK329.out) hg (Kd.R_ne HO_8.out BK329.out (by decide))) (aC (blk_grown (bU BK330.out) hg (Kd.R_ne HO_8.out BK330.out (by decide))) (aE ((by rw [hw]; exact below_set (HB.out) GB29.out : Below w.heap.size w w33)))))); clear HO_6 HO_8 BK329 BK330 HB; obtain ⟨HO_6, HO_8, BK329, BK330, HB⟩ := n_; clear hg hw hp_))
           go_roundg k1
           case measure => have := HK1.out; omega
           case rel => exact ⟨(y341), (wrap64 (x9_1 + 1)), rq, H', ⟨by have := HK1.out; omega⟩, ⟨rU (Kd.R_mono HO_6.out (fun _ hk => hk.2))⟩, ⟨rU HO_8.out⟩, ⟨by exact bU BK329.out⟩, ⟨by exact bU BK330.out⟩, ⟨bl⟩⟩
          ·rw [if_neg c28] at H
           exact absurd H (by simp)
         ·rw [if_neg c27] at H
          exact absurd H (by simp)
        ·rw [if_neg c26] at H
         exact absurd H (by simp)
       ·obtain ⟨⟨t342, t343, t344⟩, A34, H⟩ := oB H
        try dsimp only at H
        have H' := Aside0.mk H
        clear H
        obtain ⟨Ao35, co35, eo35⟩ := Kd.R_slice HO_6.out
        subst eo35
        have hnb36 := NB329_330.out
        have hnc36 := NB330_329.out
        obtain ⟨hcz37_0, hcz37_1, hcz37_2, hfz37_0, hfz37_1, hfz37_2⟩ := cz3f BK329.out
        go_wp2_with (first | ((with_reducible refine gf 20 rfl ?_); refine gL (some 43) rfl rfl Try.func20 rfl #[.agg #[.int .i64 a0_0, .int .i64 a0_1, .slice A0_2 l0_2.length c0_2]] rfl ?_; (with_reducible refine (incunableref05_Copy.calls a0_0 a0_1 _ _ l0_2 t342 t343 t344 _ ?side1 ?side2 A34.out).mono ?_); (case side1 => exact cU (Kd.C_below HR0_2.out HB.out)); (case side2 => exact HC0_2.out); rintro e w38 ⟨v345, rfl, ho0, hb⟩; refine ⟨_, rfl, ?_⟩; have n_ := aC (Kd.R_below (rU HO_6.out) hb) (aC (Kd.R_below (rU HO_8.out) hb) (aC (Kd.R_lower ho0 bz) (aC (blk_below (bU BK329.out) hb) (aC (blk_below (bU BK330.out) hb) (aE (bs hb)))))); clear HO_6 HO_8 BK329 BK330 HB; obtain ⟨HO_6, HO_8, HO346, BK329, BK330, HB⟩ := n_) | ((with_reducible refine gd 10 rfl ?_); refine bx 10 #[.int .i64 0, .int .i64 0, .slice none 0 0] 24 rfl rfl ?_; intro gb347 hg w39 hbox hb; have n_ := aC (Kd.R_below (rU HO_6.out) hb) (aC (Kd.R_below (rU HO_8.out) hb) (aC (Kd.R_below (rU HO346.out) hb) (aC (blk_below (bU BK329.out) hb) (aC (blk_below (bU BK330.out) hb) (aC (bs hb) (aC hbox (aC (gz hg) (aC (gz hg) (aC (gn hg (bU BK329.out)) (aC (gm hg (bU BK329.out)) (aC (gn hg (bU BK330.out)) (aE (gm hg (bU BK330.out)))))))))))))); clear HO_6 HO_8 HO346 BK329 BK330 HB; obtain ⟨HO_6, HO_8, HO346, BK329, BK330, HB, BK347, GW347, GE347, NB329_347, NB347_329, NB330_347, NB347_330⟩ := n_; clear hb hbox hg; have hnb40 := NB347_329.out; have hnc40 := NB329_347.out; have hnb41 := NB347_330.out; have hnc41 := NB330_347.out; obtain ⟨hcz42_0, hcz42_1, hcz42_2, hfz42_0, hfz42_1, hfz42_2⟩ := cz3f BK347.out; obtain ⟨Ao43, co43, eo43⟩ := Kd.R_slice HO346.out; subst eo43))
        go_loopg [11] k1 (fun kq v11 w' => ∃ (x11_2 : Int) (x348002_2 : List Int) (u348002 : Value), v11 = .int .i64 x11_2 ∧ Aside0 (incunableref29_Despeckle.l1 kq a1 t332 x8_1 x11_2 t342 t343 x348002_2 = some (r1, r2, r3, r4)) ∧ Aside0 (kq ≤ k1) ∧ Aside0 (Kd.R (Kd.int .i64) 3 w' w.heap.size (fun k_ => some k_ ≠ (v337 : Value).ownBlock) (.slice Ao35 t332.length co35) t332) ∧ Aside0 (Kd.R (Kd.int .i64) 3 w' w.heap.size (fun k_ => some k_ ≠ ((.slice Ao35 t332.length co35) : Value).ownBlock) v337 x8_1) ∧ Aside0 (Kd.R (Kd.int .u8) 5 w' w.heap.size (fun _ => True) u348002 x348002_2) ∧ Aside0 (w'.heap[gb329]? = some (.cells #[.int .i64 a0_0, .int .i64 a0_1, (.slice A0_2 l0_2.length c0_2)] 24 (0, 0))) ∧ Aside0 (w'.heap[gb330]? = some (.cells #[.int .i64 0, .int .i64 0, (.slice none 0 0)] 24 (0, 0))) ∧ Aside0 (w'.heap[gb347]? = some (.cells #[.int .i64 t342, .int .i64 t343, u348002] 24 (0, 0))) ∧ Aside0 (Below w.heap.size w w'))
        case atStart => exact ⟨(0), (t344), (.slice Ao43 t344.length co43), rq, H', ⟨Nat.le_refl _⟩, ⟨rU (Kd.R_mono (Kd.R_far (p := ⟨gb347, 2, none⟩) (Kd.R_far (p := ⟨gb347, 1, none⟩) (Kd.R_far (p := ⟨gb347, 0, none⟩) (Kd.R_types HO_6.out BK347.out (by decide)) (fun _ hk => hk.2) (.int .i64 t342)) (fun _ hk => hk.2) (.int .i64 t343)) (fun _ hk => hk.2) (.slice Ao43 t344.length co43)) (fun _ hk => hk.1))⟩, ⟨rU (Kd.R_mono (Kd.R_far (p := ⟨gb347, 2, none⟩) (Kd.R_far (p := ⟨gb347, 1, none⟩) (Kd.R_far (p := ⟨gb347, 0, none⟩) (Kd.R_types HO_8.out BK347.out (by decide)) (fun _ hk => hk.2) (.int .i64 t342)) (fun _ hk => hk.2) (.int .i64 t343)) (fun _ hk => hk.2) (.slice Ao43 t344.length co43)) (fun _ hk => hk.1))⟩, ⟨rU (Kd.R_mono (Kd.R_far (p := ⟨gb347, 2, none⟩) (Kd.R_far (p := ⟨gb347, 1, none⟩) (Kd.R_far (p := ⟨gb347, 0, none⟩) (Kd.R_types HO346.out BK347.out (by decide)) (fun _ hk => hk.2) (.int .i64 t342)) (fun _ hk => hk.2) (.int .i64 t343)) (fun _ hk => hk.2) (.slice Ao43 t344.length co43)) (fun _ hk => trivial))⟩, ⟨by refine bF ?_ ?_; exact NB329_347.out; refine bF ?_ ?_; exact NB329_347.out; refine bF ?_ ?_; exact NB329_347.out; exact bU BK329.out⟩, ⟨by refine bF ?_ ?_; exact NB330_347.out; refine bF ?_ ?_; exact NB330_347.out; refine bF ?_ ?_; exact NB330_347.out; exact bU BK330.out⟩, ⟨by (with_reducible repeat (first | refine blk_drewN ?_ _ | refine blk_drew ?_ | refine blk_alloc ?_ _)); refine blk_put (cs := #[.int .i64 t342, .int .i64 t343, .slice none 0 0]) ?_ 2 _ rfl; (with_reducible repeat (first | refine blk_drewN ?_ _ | refine blk_drew ?_ | refine blk_alloc ?_ _)); refine blk_put (cs := #[.int .i64 t342, .int .i64 0, .slice none 0 0]) ?_ 1 _ rfl; (with_reducible repeat (first | refine blk_drewN ?_ _ | refine blk_drew ?_ | refine blk_alloc ?_ _)); refine blk_put (cs := #[.int .i64 0, .int .i64 0, .slice none 0 0]) ?_ 0 _ rfl; exact bU BK347.out⟩, ⟨bl⟩⟩
        case round =>
         clear H'
         obtain ⟨x11_2, x348002_2, u348002, rfl, HA, HK2, HO_6, HO_8, HO_348002, BK329, BK330, BK347, HB⟩ := hrel
         cases gk with
         | zero => exact absurd HA.out (by simp [incunableref29_Despeckle.l1])
         | succ k2 =>
          have H := HA.out
          clear HA
          simp only [incunableref29_Despeckle.l1] at H
          rcases iL H with H1 | H1 <;> clear H <;> obtain ⟨H, c44b0⟩ := H1
          ·by_cases c45 : 0 ≤ x11_2
           ·rw [if_pos c45] at H
            have c45b0 := decide_eq_true c45
            clear c45
            rcases iL H with H1 | H1 <;> clear H <;> obtain ⟨H, c46b0⟩ := H1
            ·by_cases c47 : 0 ≤ (rd t332 x11_2)
             ·rw [if_pos c47] at H
              have c47b0 := decide_eq_true c47
              clear c47
              by_cases c48 : (rd t332 x11_2) < (x8_1.length : Int)
              ·rw [if_pos c48] at H
               have c48b0 := decide_eq_true c48
               clear c48
               rcases iL H with H1 | H1 <;> clear H <;> obtain ⟨H, c49b0⟩ := H1
               ·by_cases c50 : x11_2 < (x348002_2.length : Int)
                ·rw [if_pos c50] at H
                 have c50b0 := decide_eq_true c50
                 clear c50
                 obtain ⟨y351, hy_⟩ : ∃ y_ : List Int, y_ = (x348002_2.set (x11_2 : Int).toNat 0) := ⟨_, rfl⟩
                 replace H : (incunableref29_Despeckle.l1 k2 a1 t332 x8_1 (wrap64 (x11_2 + 1)) t342 t343 y351) = some (r1, r2, r3, r4) := rh
                 have Ny351 := aE hy_
                 clear hy_
                 have H' := Aside0.mk H
                 clear H
                 have p348 : 0 ≤ (x11_2 : Int) := dt
                 have q348 : x11_2 < (t332.length : Int) := dt
                 obtain ⟨ad348, e348, hx348_0⟩ := Kd.at_int (Kd.R_reads' HO_6.out).2.2 x11_2 p348 q348
                 cases e348
                 replace p348 := eq_true p348
                 replace q348 := eq_true q348
                 have p349 : 0 ≤ (x11_2 : Int) := dt
                 have q349 : x11_2 < (t332.length : Int) := dt
                 obtain ⟨ad349, e349, hx349_0⟩ := Kd.at_int (Kd.R_reads' HO_6.out).2.2 x11_2 p349 q349
                 obtain rfl : ad348 = ad349 := (by injection e349)
                 replace p349 := eq_true p349
                 replace q349 := eq_true q349
                 obtain ⟨Ao52, co52, eo52⟩ := Kd.R_slice HO_8.out
                 subst eo52
                 have p350 : 0 ≤ ((rd t332 x11_2) : Int) := dt
                 have q350 : (rd t332 x11_2) < (x8_1.length : Int) := dt
                 obtain ⟨ad350, e350, hx350_0⟩ := Kd.at_int (Kd.R_reads' HO_8.out).2.2 (rd t332 x11_2) p350 q350
                 cases e350
                 replace p350 := eq_true p350
                 replace q350 := eq_true q350
                 have hnb53 := NB347_329.out
                 have hnc53 := NB329_347.out
                 have hnb54 := NB347_330.out
                 have hnc54 := NB330_347.out
                 obtain ⟨hcz55_0, hcz55_1, hcz55_2, hfz55_0, hfz55_1, hfz55_2⟩ := cz3f BK347.out
                 have p51 : 0 ≤ (x11_2 : Int) := dt
                 have q51 : (x11_2 : Int) < ((x348002_2.length : Int) : Int) := dt
                 obtain ⟨go51, co51, eo51, gb51, gl51, cl51, HG51⟩ := Kd.R_form HO_348002.out (by omega)
                 (first | cases eo51 | (injection eo51 with ea_ en_ ec_; (first | subst ea_ | (injection ea_ with ea_; subst ea_)); subst ec_; clear en_))
                 have GB51 := Aside0.mk gb51
                 have GG51 := Aside0.mk HG51
                 clear gb51 gl51 HG51
                 obtain ⟨hx51_0, hf51_0⟩ := Kd.R_celln 0 HO_348002.out (x11_2 : Int) p51 q51
                 replace p51 := eq_true p51
                 replace q51 := eq_true q51
                 have HP56 := Kd.R_putg HO_348002.out (x11_2 : Int) 0
                 go_wp2_with (first | ((with_reducible refine gate_store (t := 5) (p := 69) rfl ?_); refine store_event (t := 5) (p := 69) (v := ?vo_w57) (w1 := (wr.setCell ⟨go51, (x11_2 : Int).toNat, none⟩ (.int .u8 0))) ?hg ?ho ?hn ?hr ?_; (case ho => rfl); (case hg => rfl); (case hn => rfl); (case hr => first | (go_simp; done) | (go_simp; rfl)); intro w57 hw; have hg : wr.grownBy w57 (some go51) := (by rw [hw]; exact HP56.2); have hp_ : Kd.R (Kd.int .u8) 5 w57 w.heap.size (fun _ => True) (.slice (some ⟨go51, 0, none⟩) x348002_2.length co51) y351 := (by rw [hw, Ny351.out]; exact HP56.1); clear HP56; have n_ := aC (Kd.R_over' (v := (.slice (some ⟨go51, 0, none⟩) x348002_2.length co51)) (rU HO_6.out) (Kd.R_typed HO_348002.out) (by decide) hg) (aC (Kd.R_over' (v := (.slice (some ⟨go51, 0, none⟩) x348002_2.length co51)) (rU HO_8.out) (Kd.R_typed HO_348002.out) (by decide) hg) (aC hp_ (aC (blk_grown (bU BK329.out) hg (Kd.R_ne HO_348002.out BK329.out (by decide))) (aC (blk_grown (bU BK330.out) hg (Kd.R_ne HO_348002.out BK330.out (by decide))) (aC (blk_grown (bU BK347.out) hg (Kd.R_ne HO_348002.out BK347.out (by decide))) (aE ((by rw [hw]; exact below_set (HB.out) GB51.out : Below w.heap.size w w57)))))))); clear HO_6 HO_8 HO_348002 BK329 BK330 BK347 HB; obtain ⟨HO_6, HO_8, HO_348002, BK329, BK330, BK347, HB⟩ := n_; clear hg hw hp_))
                 go_roundg k2
                 case measure => have := HK1.out; have := HK2.out; omega
                 case rel => exact ⟨(wrap64 (x11_2 + 1)), (y351), (.slice (some ⟨go51, 0, none⟩) x348002_2.length co51), rq, H', ⟨by have := HK1.out; have := HK2.out; omega⟩, ⟨rU HO_6.out⟩, ⟨rU HO_8.out⟩, ⟨rU HO_348002.out⟩, ⟨by exact bU BK329.out⟩, ⟨by exact bU BK330.out⟩, ⟨by exact bU BK347.out⟩, ⟨bl⟩⟩
                ·rw [if_neg c50] at H
                 exact absurd H (by simp)
               ·have H' := Aside0.mk H
                clear H
                have p348 : 0 ≤ (x11_2 : Int) := dt
                have q348 : x11_2 < (t332.length : Int) := dt
                obtain ⟨ad348, e348, hx348_0⟩ := Kd.at_int (Kd.R_reads' HO_6.out).2.2 x11_2 p348 q348
                cases e348
                replace p348 := eq_true p348
                replace q348 := eq_true q348
                have p349 : 0 ≤ (x11_2 : Int) := dt
                have q349 : x11_2 < (t332.length : Int) := dt
                obtain ⟨ad349, e349, hx349_0⟩ := Kd.at_int (Kd.R_reads' HO_6.out).2.2 x11_2 p349 q349
                obtain rfl : ad348 = ad349 := (by injection e349)
                replace p349 := eq_true p349
                replace q349 := eq_true q349
                obtain ⟨Ao58, co58, eo58⟩ := Kd.R_slice HO_8.out
                subst eo58
                have p350 : 0 ≤ ((rd t332 x11_2) : Int) := dt
                have q350 : (rd t332 x11_2) < (x8_1.length : Int) := dt
                obtain ⟨ad350, e350, hx350_0⟩ := Kd.at_int (Kd.R_reads' HO_8.out).2.2 (rd t332 x11_2) p350 q350
                cases e350
                replace p350 := eq_true p350
                replace q350 := eq_true q350
                go_wp2
                go_roundg k2
                case measure => have := HK1.out; have := HK2.out; omega
                case rel => exact ⟨(wrap64 (x11_2 + 1)), (x348002_2), (u348002), rq, H', ⟨by have := HK1.out; have := HK2.out; omega⟩, ⟨rU HO_6.out⟩, ⟨rU HO_8.out⟩, ⟨rU HO_348002.out⟩, ⟨by exact bU BK329.out⟩, ⟨by exact bU BK330.out⟩, ⟨by exact bU BK347.out⟩, ⟨bl⟩⟩
              ·rw [if_neg c48] at H
               exact absurd H (by simp)
             ·rw [if_neg c47] at H
              exact absurd H (by simp)
            ·have H' := Aside0.mk H
             clear H
             have p348 : 0 ≤ (x11_2 : Int) := dt
             have q348 : x11_2 < (t332.length : Int) := dt
             obtain ⟨ad348, e348, hx348_0⟩ := Kd.at_int (Kd.R_reads' HO_6.out).2.2 x11_2 p348 q348
             cases e348
             replace p348 := eq_true p348
             replace q348 := eq_true q348
             go_wp2
             go_roundg k2
             case measure => have := HK1.out; have := HK2.out; omega
             case rel => exact ⟨(wrap64 (x11_2 + 1)), (x348002_2), (u348002), rq, H', ⟨by have := HK1.out; have := HK2.out; omega⟩, ⟨rU HO_6.out⟩, ⟨rU HO_8.out⟩, ⟨rU HO_348002.out⟩, ⟨by exact bU BK329.out⟩, ⟨by exact bU BK330.out⟩, ⟨by exact bU BK347.out⟩, ⟨bl⟩⟩
           ·rw [if_neg c45] at H
            exact absurd H (by simp)
          ·simp only [Option.some.injEq, Prod.mk.injEq] at H
           obtain ⟨rfl, rfl, rfl, rfl⟩ := H
           have hnb59 := NB347_329.out
           have hnc59 := NB329_347.out
           have hnb60 := NB347_330.out
           have hnc60 := NB330_347.out
           obtain ⟨hcz61_0, hcz61_1, hcz61_2, hfz61_0, hfz61_1, hfz61_2⟩ := cz3f BK347.out
           have hnb62 := NB330_329.out
           have hnc62 := NB329_330.out
           obtain ⟨hcz63_0, hcz63_1, hcz63_2, hfz63_0, hfz63_1, hfz63_2⟩ := cz3f BK330.out
           obtain ⟨Ao64, co64, eo64⟩ := Kd.R_slice HO_348002.out
           subst eo64
           go_wp2
           refine bodyPost_ret (results_ct rfl _ _ gb330 24 #[.int .i64 t342, .int .i64 t343, .slice Ao64 x348002_2.length co64] (0, 0) _ rfl (by (with_reducible repeat (first | refine blk_drewN ?_ _ | refine blk_drew ?_ | refine blk_alloc ?_ _)); refine blk_put (cs := #[.int .i64 t342, .int .i64 t343, .slice none 0 0]) ?_ 2 _ rfl; (with_reducible repeat (first | refine blk_drewN ?_ _ | refine blk_drew ?_ | refine blk_alloc ?_ _)); refine blk_put (cs := #[.int .i64 t342, .int .i64 0, .slice none 0 0]) ?_ 1 _ rfl; (with_reducible repeat (first | refine blk_drewN ?_ _ | refine blk_drew ?_ | refine blk_alloc ?_ _)); refine blk_put (cs := #[.int .i64 0, .int .i64 0, .slice none 0 0]) ?_ 0 _ rfl; exact bU BK330.out) Try.underlying24 rfl (by kernel_rfl)) rfl ?_
           exact ⟨_, by first | rfl | (simp [errW_none, errW_some] <;> rfl) | (simp only [← hji13]; first | rfl | (simp [errW_none, errW_some] <;> rfl)) | (simp [*, errW_none, errW_some] <;> rfl), rU (Kd.R_mono (Kd.R_far (p := ⟨gb330, 2, none⟩) (Kd.R_far (p := ⟨gb330, 1, none⟩) (Kd.R_far (p := ⟨gb330, 0, none⟩) (Kd.R_types HO_348002.out BK330.out (by decide)) (fun _ hk => hk.2) (.int .i64 t342)) (fun _ hk => hk.2) (.int .i64 t343)) (fun _ hk => hk.2) (.slice Ao64 x348002_2.length co64)) (fun _ hk => trivial)), bl⟩
    ·rw [if_neg c15] at H
     exact absurd H (by simp)
   ·rw [if_neg c14] at H
    exact absurd H (by simp)
 ·replace c4 := Bool.eq_false_iff.mpr c4
  subst c4
  rw [if_neg Bool.false_ne_true] at H
  simp only [Option.some.injEq, Prod.mk.injEq] at H
  obtain ⟨rfl, rfl, rfl, rfl⟩ := H
  go_enter Try.func6, Try.ntmps6
  go_wp2_with (first | ((with_reducible refine gd 2 rfl ?_); refine bx 2 #[.int .i64 a0_0, .int .i64 a0_1, .slice A0_2 l0_2.length c0_2] 24 rfl rfl ?_; intro gb329 hg w65 hbox hb; have n_ := aC (bs hb) (aC hbox (aC (gz hg) (aE (gz hg)))); clear HB; obtain ⟨HB, BK329, GW329, GE329⟩ := n_; clear hb hbox hg) | ((with_reducible refine gd 4 rfl ?_); refine bx 4 #[.int .i64 0, .int .i64 0, .slice none 0 0] 24 rfl rfl ?_; intro gb330 hg w66 hbox hb; have n_ := aC (blk_below (bU BK329.out) hb) (aC (bs hb) (aC hbox (aC (gz hg) (aC (gz hg) (aC (gn hg (bU BK329.out)) (aE (gm hg (bU BK329.out)))))))); clear BK329 HB; obtain ⟨BK329, HB, BK330, GW330, GE330, NB329_330, NB330_329⟩ := n_; clear hb hbox hg; have hnb67 := NB329_330.out; have hnc67 := NB330_329.out; obtain ⟨hcz68_0, hcz68_1, hcz68_2, hfz68_0, hfz68_1, hfz68_2⟩ := cz3f BK329.out) | ((with_reducible refine gf 18 rfl ?_); refine gL (some 13) rfl rfl Try.func18 rfl #[.agg #[.int .i64 a0_0, .int .i64 a0_1, .slice A0_2 l0_2.length c0_2]] rfl ?_; (with_reducible refine (incunableref05_Valid.calls k a0_0 a0_1 _ _ l0_2 false _ ?side1 ?side2 A3.out).mono ?_); (case side1 => exact cU (Kd.C_below HR0_2.out HB.out)); (case side2 => exact HC0_2.out); rintro e w69 ⟨rfl, hb⟩; refine ⟨_, rfl, ?_⟩; have n_ := aC (blk_below (bU BK329.out) hb) (aC (blk_below (bU BK330.out) hb) (aE (bs hb))); clear BK329 BK330 HB; obtain ⟨BK329, BK330, HB⟩ := n_; obtain ⟨hcz70_0, hcz70_1, hcz70_2, hfz70_0, hfz70_1, hfz70_2⟩ := cz3f BK330.out))
  refine bodyPost_ret (results_ct rfl _ _ gb330 24 #[.int .i64 0, .int .i64 0, .slice none 0 0] (0, 0) _ rfl (by (with_reducible repeat (first | refine blk_drewN ?_ _ | refine blk_drew ?_ | refine blk_alloc ?_ _)); refine blk_put (cs := #[.int .i64 0, .int .i64 0, .slice none 0 0]) ?_ 2 _ rfl; (with_reducible repeat (first | refine blk_drewN ?_ _ | refine blk_drew ?_ | refine blk_alloc ?_ _)); refine blk_put (cs := #[.int .i64 0, .int .i64 0, .slice none 0 0]) ?_ 1 _ rfl; (with_reducible repeat (first | refine blk_drewN ?_ _ | refine blk_drew ?_ | refine blk_alloc ?_ _)); refine blk_put (cs := #[.int .i64 0, .int .i64 0, .slice none 0 0]) ?_ 0 _ rfl; exact bU BK330.out) Try.underlying24 rfl (by kernel_rfl)) rfl ?_
  exact ⟨_, re, by first | exact Kd.R_nil _ _ _ _ _ | exact Kd.N_nil _ _ _ _ _ | exact Kd.V_nil _ _ _ _ _ | exact Kd.Q_nil _ _ _ _ _ | exact Kd.S_nil _ _ _ _ _, bl⟩
def incunableref05_Same.f (a0_0 : Int) (a0_1 : Int) (l0_2 : List Int) (a1_0 : Int) (a1_1 : Int) (l1_2 : List Int) : Option (Bool) := if a0_0 = a1_0 then (if a0_1 = a1_1 then (some ((strOfNums l0_2).toList == (strOfNums l1_2).toList)) else (some false)) else (some false)
set_option maxHeartbeats 8000000 in
set_option maxRecDepth 100000 in
theorem incunableref05_Same.calls (a0_0 : Int) (a0_1 : Int) (A0_2 : Option Addr) (c0_2 : Nat) (l0_2 : List Int) (a1_0 : Int) (a1_1 : Int) (A1_2 : Option Addr) (c1_2 : Nat) (l1_2 : List Int) (r : Bool) (w : World) (hr0_2 : Kd.C (Kd.int .u8) w A0_2 l0_2.length l0_2) (hc0_2 : l0_2.length ≤ c0_2) (hr1_2 : Kd.C (Kd.int .u8) w A1_2 l1_2.length l1_2) (hc1_2 : l1_2.length ≤ c1_2) (h : incunableref05_Same.f a0_0 a0_1 l0_2 a1_0 a1_1 l1_2 = some r) :
  Calls Try.prog 7 #[.agg #[.int .i64 a0_0, .int .i64 a0_1, .slice A0_2 l0_2.length c0_2], .agg #[.int .i64 a1_0, .int .i64 a1_1, .slice A1_2 l1_2.length c1_2]] w fun e w' => e = .returned (.bool r) ∧ Below w.heap.size w w' := by
 have hu24 := Try.underlying24
 have HR0_2 := Aside0.mk hr0_2
 have HC0_2 := Aside0.mk hc0_2
 clear hr0_2 hc0_2
 have HR1_2 := Aside0.mk hr1_2
 have HC1_2 := Aside0.mk hc1_2
 clear hr1_2 hc1_2
 have HB := Aside0.mk (Below.refl w.heap.size w)
 have H := h
 unfold incunableref05_Same.f at H
 clear h
 rcases iE H with H1 | H1 <;> clear H <;> obtain ⟨H, c3b0, c3b1, c3⟩ := H1
 ·rcases iE H with H1 | H1 <;> clear H <;> obtain ⟨H, c4b0, c4b1, c4⟩ := H1
  ·obtain rfl := Option.some.inj H
   go_enter Try.func7, Try.ntmps7
   go_wp2_with (first | ((with_reducible refine gd 2 rfl ?_); refine bx 2 #[.int .i64 a0_0, .int .i64 a0_1, .slice A0_2 l0_2.length c0_2] 24 rfl rfl ?_; intro gb352 hg w5 hbox hb; have n_ := aC (bs hb) (aC hbox (aC (gz hg) (aE (gz hg)))); clear HB; obtain ⟨HB, BK352, GW352, GE352⟩ := n_; clear hb hbox hg) | ((with_reducible refine gd 3 rfl ?_); refine bx 3 #[.int .i64 a1_0, .int .i64 a1_1, .slice A1_2 l1_2.length c1_2] 24 rfl rfl ?_; intro gb353 hg w6 hbox hb; have n_ := aC (blk_below (bU BK352.out) hb) (aC (bs hb) (aC hbox (aC (gz hg) (aC (gz hg) (aC (gn hg (bU BK352.out)) (aE (gm hg (bU BK352.out)))))))); clear BK352 HB; obtain ⟨BK352, HB, BK353, GW353, GE353, NB352_353, NB353_352⟩ := n_; clear hb hbox hg; have hnb7 := NB352_353.out; have hnc7 := NB353_352.out; obtain ⟨hcz8_0, hcz8_1, hcz8_2, hfz8_0, hfz8_1, hfz8_2⟩ := cz3f BK352.out; obtain ⟨hcz9_0, hcz9_1, hcz9_2, hfz9_0, hfz9_1, hfz9_2⟩ := cz3f BK353.out; have hcv10 := Kd.C_string (P := Try.prog) (A := A0_2) (c := c0_2) Try.underlying22 Try.underlying5 Try.underlying9 (Kd.C_below HR0_2.out HB.out); have hcv11 := Kd.C_string (P := Try.prog) (A := A1_2) (c := c1_2) Try.underlying22 Try.underlying5 Try.underlying9 (Kd.C_below HR1_2.out HB.out)))
   go_ret
   exact ⟨re, bl⟩
  ·obtain rfl := Option.some.inj H
   go_enter Try.func7, Try.ntmps7
   go_wp2_with (first | ((with_reducible refine gd 2 rfl ?_); refine bx 2 #[.int .i64 a0_0, .int .i64 a0_1, .slice A0_2 l0_2.length c0_2] 24 rfl rfl ?_; intro gb352 hg w12 hbox hb; have n_ := aC (bs hb) (aC hbox (aC (gz hg) (aE (gz hg)))); clear HB; obtain ⟨HB, BK352, GW352, GE352⟩ := n_; clear hb hbox hg) | ((with_reducible refine gd 3 rfl ?_); refine bx 3 #[.int .i64 a1_0, .int .i64 a1_1, .slice A1_2 l1_2.length c1_2] 24 rfl rfl ?_; intro gb353 hg w13 hbox hb; have n_ := aC (blk_below (bU BK352.out) hb) (aC (bs hb) (aC hbox (aC (gz hg) (aC (gz hg) (aC (gn hg (bU BK352.out)) (aE (gm hg (bU BK352.out)))))))); clear BK352 HB; obtain ⟨BK352, HB, BK353, GW353, GE353, NB352_353, NB353_352⟩ := n_; clear hb hbox hg; have hnb14 := NB352_353.out; have hnc14 := NB353_352.out; obtain ⟨hcz15_0, hcz15_1, hcz15_2, hfz15_0, hfz15_1, hfz15_2⟩ := cz3f BK352.out; obtain ⟨hcz16_0, hcz16_1, hcz16_2, hfz16_0, hfz16_1, hfz16_2⟩ := cz3f BK353.out))
   go_ret
   exact ⟨re, bl⟩
 ·obtain rfl := Option.some.inj H
  go_enter Try.func7, Try.ntmps7
  go_wp2_with (first | ((with_reducible refine gd 2 rfl ?_); refine bx 2 #[.int .i64 a0_0, .int .i64 a0_1, .slice A0_2 l0_2.length c0_2] 24 rfl rfl ?_; intro gb352 hg w17 hbox hb; have n_ := aC (bs hb) (aC hbox (aC (gz hg) (aE (gz hg)))); clear HB; obtain ⟨HB, BK352, GW352, GE352⟩ := n_; clear hb hbox hg) | ((with_reducible refine gd 3 rfl ?_); refine bx 3 #[.int .i64 a1_0, .int .i64 a1_1, .slice A1_2 l1_2.length c1_2] 24 rfl rfl ?_; intro gb353 hg w18 hbox hb; have n_ := aC (blk_below (bU BK352.out) hb) (aC (bs hb) (aC hbox (aC (gz hg) (aC (gz hg) (aC (gn hg (bU BK352.out)) (aE (gm hg (bU BK352.out)))))))); clear BK352 HB; obtain ⟨BK352, HB, BK353, GW353, GE353, NB352_353, NB353_352⟩ := n_; clear hb hbox hg; have hnb19 := NB352_353.out; have hnc19 := NB353_352.out; obtain ⟨hcz20_0, hcz20_1, hcz20_2, hfz20_0, hfz20_1, hfz20_2⟩ := cz3f BK352.out; obtain ⟨hcz21_0, hcz21_1, hcz21_2, hfz21_0, hfz21_1, hfz21_2⟩ := cz3f BK353.out))
  go_ret
  exact ⟨re, bl⟩
def incunableref05_inside.f (a0_0 : Int) (a0_1 : Int) (l0_2 : List Int) (a1 : Int) (a2 : Int) : Option (Bool) := if a1 ≥ 0 then (if a2 ≥ 0 then (if a1 < a0_0 then (some (decide (a2 < a0_1))) else (some false)) else (some false)) else (some false)
set_option maxHeartbeats 8000000 in
set_option maxRecDepth 100000 in
theorem incunableref05_inside.calls (a0_0 : Int) (a0_1 : Int) (A0_2 : Option Addr) (c0_2 : Nat) (l0_2 : List Int) (a1 : Int) (a2 : Int) (r : Bool) (w : World) (hr0_2 : Kd.C (Kd.int .u8) w A0_2 l0_2.length l0_2) (hc0_2 : l0_2.length ≤ c0_2) (h : incunableref05_inside.f a0_0 a0_1 l0_2 a1 a2 = some r) :
  Calls Try.prog 50 #[.agg #[.int .i64 a0_0, .int .i64 a0_1, .slice A0_2 l0_2.length c0_2], .int .i64 a1, .int .i64 a2] w fun e w' => e = .returned (.bool r) ∧ Below w.heap.size w w' := by
 have hu24 := Try.underlying24
 have HR0_2 := Aside0.mk hr0_2
 have HC0_2 := Aside0.mk hc0_2
 clear hr0_2 hc0_2
 have HB := Aside0.mk (Below.refl w.heap.size w)
 have H := h
 unfold incunableref05_inside.f at H
 clear h
 rcases iL H with H1 | H1 <;> clear H <;> obtain ⟨H, c4b0⟩ := H1
 ·rcases iL H with H1 | H1 <;> clear H <;> obtain ⟨H, c5b0⟩ := H1
  ·rcases iL H with H1 | H1 <;> clear H <;> obtain ⟨H, c6b0⟩ := H1
   ·obtain rfl := Option.some.inj H
    go_enter Try.func50, Try.ntmps50
    go_wp2_with (first | ((with_reducible refine gd 3 rfl ?_); refine bx 3 #[.int .i64 a0_0, .int .i64 a0_1, .slice A0_2 l0_2.length c0_2] 24 rfl rfl ?_; intro gb354 hg w7 hbox hb; have n_ := aC (bs hb) (aC hbox (aC (gz hg) (aE (gz hg)))); clear HB; obtain ⟨HB, BK354, GW354, GE354⟩ := n_; clear hb hbox hg; obtain ⟨hcz8_0, hcz8_1, hcz8_2, hfz8_0, hfz8_1, hfz8_2⟩ := cz3f BK354.out))
    go_ret
    exact ⟨re, bl⟩
   ·obtain rfl := Option.some.inj H
    go_enter Try.func50, Try.ntmps50
    go_wp2_with (first | ((with_reducible refine gd 3 rfl ?_); refine bx 3 #[.int .i64 a0_0, .int .i64 a0_1, .slice A0_2 l0_2.length c0_2] 24 rfl rfl ?_; intro gb354 hg w9 hbox hb; have n_ := aC (bs hb) (aC hbox (aC (gz hg) (aE (gz hg)))); clear HB; obtain ⟨HB, BK354, GW354, GE354⟩ := n_; clear hb hbox hg; obtain ⟨hcz10_0, hcz10_1, hcz10_2, hfz10_0, hfz10_1, hfz10_2⟩ := cz3f BK354.out))
    go_ret
    exact ⟨re, bl⟩
  ·obtain rfl := Option.some.inj H
   go_enter Try.func50, Try.ntmps50
   go_wp2_with (first | ((with_reducible refine gd 3 rfl ?_); refine bx 3 #[.int .i64 a0_0, .int .i64 a0_1, .slice A0_2 l0_2.length c0_2] 24 rfl rfl ?_; intro gb354 hg w11 hbox hb; have n_ := aC (bs hb) (aC hbox (aC (gz hg) (aE (gz hg)))); clear HB; obtain ⟨HB, BK354, GW354, GE354⟩ := n_; clear hb hbox hg))
   go_ret
   exact ⟨re, bl⟩
 ·obtain rfl := Option.some.inj H
  go_enter Try.func50, Try.ntmps50
  go_wp2_with (first | ((with_reducible refine gd 3 rfl ?_); refine bx 3 #[.int .i64 a0_0, .int .i64 a0_1, .slice A0_2 l0_2.length c0_2] 24 rfl rfl ?_; intro gb354 hg w12 hbox hb; have n_ := aC (bs hb) (aC hbox (aC (gz hg) (aE (gz hg)))); clear HB; obtain ⟨HB, BK354, GW354, GE354⟩ := n_; clear hb hbox hg))
  go_ret
  exact ⟨re, bl⟩
def incunableref05_At.f (a0_0 : Int) (a0_1 : Int) (l0_2 : List Int) (a1 : Int) (a2 : Int) : Option (Int) := (incunableref05_inside.f a0_0 a0_1 l0_2 a1 a2).bind fun t356 => (if t356 = true then (if 0 ≤ (wrap64 ((wrap64 (a2 * a0_0)) + a1)) then (if (wrap64 ((wrap64 (a2 * a0_0)) + a1)) < (l0_2.length : Int) then (some (wrap64 (rd l0_2 (wrap64 ((wrap64 (a2 * a0_0)) + a1))))) else (none)) else (none)) else (some 0))
set_option maxHeartbeats 8000000 in
set_option maxRecDepth 100000 in
theorem incunableref05_At.calls (a0_0 : Int) (a0_1 : Int) (A0_2 : Option Addr) (c0_2 : Nat) (l0_2 : List Int) (a1 : Int) (a2 : Int) (r : Int) (w : World) (hr0_2 : Kd.C (Kd.int .u8) w A0_2 l0_2.length l0_2) (hc0_2 : l0_2.length ≤ c0_2) (h : incunableref05_At.f a0_0 a0_1 l0_2 a1 a2 = some r) :
  Calls Try.prog 34 #[.agg #[.int .i64 a0_0, .int .i64 a0_1, .slice A0_2 l0_2.length c0_2], .int .i64 a1, .int .i64 a2] w fun e w' => e = .returned (.int .i64 r) ∧ Below w.heap.size w w' := by
 have hu24 := Try.underlying24
 have HR0_2 := Aside0.mk hr0_2
 have HC0_2 := Aside0.mk hc0_2
 clear hr0_2 hc0_2
 have HB := Aside0.mk (Below.refl w.heap.size w)
 have H := h
 unfold incunableref05_At.f at H
 clear h
 obtain ⟨t356, A4, H⟩ := oB H
 try dsimp only at H
 by_cases c5 : t356 = true
 ·subst c5
  rw [if_pos rfl] at H
  obtain ⟨ji6, hji6⟩ : ∃ j_ : Int, (wrap64 ((wrap64 (a2 * a0_0)) + a1)) = j_ := ⟨_, rfl⟩
  replace H : (if 0 ≤ (ji6) then (if (ji6) < (l0_2.length : Int) then (some (wrap64 (rd l0_2 (ji6)))) else (none)) else (none)) = some r := by first | (rw [hji6] at H; exact H) | (simp only [hji6] at H ⊢; exact H)
  (try rw [hji6] at A4)
  have hji6w : (IntKind.i64.wrap ((wrap64 (a2 * a0_0)) + a1)) = ji6 := (i64_w _).trans hji6
  by_cases c7 : 0 ≤ (ji6)
  ·rw [if_pos c7] at H
   have c7b0 := decide_eq_true c7
   clear c7
   by_cases c8 : (ji6) < (l0_2.length : Int)
   ·rw [if_pos c8] at H
    have c8b0 := decide_eq_true c8
    clear c8
    obtain rfl := Option.some.inj H
    go_enter Try.func34, Try.ntmps34
    go_wp2_with (first | ((with_reducible refine gd 3 rfl ?_); refine bx 3 #[.int .i64 a0_0, .int .i64 a0_1, .slice A0_2 l0_2.length c0_2] 24 rfl rfl ?_; intro gb355 hg w9 hbox hb; have n_ := aC (bs hb) (aC hbox (aC (gz hg) (aE (gz hg)))); clear HB; obtain ⟨HB, BK355, GW355, GE355⟩ := n_; clear hb hbox hg; obtain ⟨hcz10_0, hcz10_1, hcz10_2, hfz10_0, hfz10_1, hfz10_2⟩ := cz3f BK355.out) | ((with_reducible refine gf 50 rfl ?_); refine gL (some 10) rfl rfl Try.func50 rfl #[.agg #[.int .i64 a0_0, .int .i64 a0_1, .slice A0_2 l0_2.length c0_2], .int .i64 a1, .int .i64 a2] rfl ?_; (with_reducible refine (incunableref05_inside.calls a0_0 a0_1 _ _ l0_2 a1 a2 true _ ?side1 ?side2 A4.out).mono ?_); (case side1 => exact cU (Kd.C_below HR0_2.out HB.out)); (case side2 => exact HC0_2.out); rintro e w11 ⟨rfl, hb⟩; refine ⟨_, rfl, ?_⟩; have n_ := aC (blk_below (bU BK355.out) hb) (aE (bs hb)); clear BK355 HB; obtain ⟨BK355, HB⟩ := n_; obtain ⟨hcz12_0, hcz12_1, hcz12_2, hfz12_0, hfz12_1, hfz12_2⟩ := cz3f BK355.out; have p357 : 0 ≤ ((ji6) : Int) := dt; have q357 : (ji6) < (l0_2.length : Int) := dt; obtain ⟨ad357, e357, hx357_0⟩ := Kd.at_int HR0_2.out (ji6) p357 q357; cases e357; replace hx357_0 := hcB HB.out hx357_0; replace p357 := eq_true p357; replace q357 := eq_true q357))
    go_ret
    exact ⟨by first | rfl | (simp [errW_none, errW_some] <;> rfl) | (simp only [← hji6]; first | rfl | (simp [errW_none, errW_some] <;> rfl)) | (simp [*, errW_none, errW_some] <;> rfl), bl⟩
   ·rw [if_neg c8] at H
    exact absurd H (by simp)
  ·rw [if_neg c7] at H
   exact absurd H (by simp)
 ·replace c5 := Bool.eq_false_iff.mpr c5
  subst c5
  rw [if_neg Bool.false_ne_true] at H
  obtain rfl := Option.some.inj H
  go_enter Try.func34, Try.ntmps34
  go_wp2_with (first | ((with_reducible refine gd 3 rfl ?_); refine bx 3 #[.int .i64 a0_0, .int .i64 a0_1, .slice A0_2 l0_2.length c0_2] 24 rfl rfl ?_; intro gb355 hg w13 hbox hb; have n_ := aC (bs hb) (aC hbox (aC (gz hg) (aE (gz hg)))); clear HB; obtain ⟨HB, BK355, GW355, GE355⟩ := n_; clear hb hbox hg; obtain ⟨hcz14_0, hcz14_1, hcz14_2, hfz14_0, hfz14_1, hfz14_2⟩ := cz3f BK355.out) | ((with_reducible refine gf 50 rfl ?_); refine gL (some 10) rfl rfl Try.func50 rfl #[.agg #[.int .i64 a0_0, .int .i64 a0_1, .slice A0_2 l0_2.length c0_2], .int .i64 a1, .int .i64 a2] rfl ?_; (with_reducible refine (incunableref05_inside.calls a0_0 a0_1 _ _ l0_2 a1 a2 false _ ?side1 ?side2 A4.out).mono ?_); (case side1 => exact cU (Kd.C_below HR0_2.out HB.out)); (case side2 => exact HC0_2.out); rintro e w15 ⟨rfl, hb⟩; refine ⟨_, rfl, ?_⟩; have n_ := aC (blk_below (bU BK355.out) hb) (aE (bs hb)); clear BK355 HB; obtain ⟨BK355, HB⟩ := n_))
  go_ret
  exact ⟨re, bl⟩
def incunableref05_make2.l0 : Nat → Int → Int → Int → Int → Int → Int → List Int → Option (Int × Int × List Int)
 | 0, _, _, _, _, _, _, _ => none
 | k + 1, x0, x1, x2, x8, x360000, x360001, x360002 => if x8 < (wrap64 (x0 * x1)) then (if x360002.length < 140737488355328 then (incunableref05_make2.l0 k x0 x1 x2 (wrap64 (x8 + 1)) x360000 x360001 (x360002 ++ [(x2) % 256])) else (none)) else (some (x360000, x360001, x360002))
def incunableref05_make2.f (k : Nat) (a0 : Int) (a1 : Int) (a2 : Int) : Option (Int × Int × List Int) := incunableref05_make2.l0 k a0 a1 a2 0 a0 a1 ([] : List Int)
theorem incunableref05_make2.mono_l : ∀ k, (∀ y0 y1 y2 y3 y4 y5 y6, LeO (incunableref05_make2.l0 k y0 y1 y2 y3 y4 y5 y6) (incunableref05_make2.l0 (k + 1) y0 y1 y2 y3 y4 y5 y6))
 | 0 => fun _ _ _ _ _ _ _ r h => by simp [incunableref05_make2.l0] at h
 | k + 1 => by
  have ih0 := incunableref05_make2.mono_l k
  ·intro y0 y1 y2 y3 y4 y5 y6
   unfold incunableref05_make2.l0
   repeat' first
   | (with_reducible exact ih0 _ _ _ _ _ _ _)
   | (with_reducible first | exact LeO.refl _ | exact LeO.none _ | refine LeO.ite ?_ ?_ | refine LeO.bind ?_ (fun _ => ?_))
theorem incunableref05_make2.mono : ∀ a0 a1 a2 k, LeO (incunableref05_make2.f k a0 a1 a2) (incunableref05_make2.f (k + 1) a0 a1 a2) := by
 intro a0 a1 a2 k
 have ih0 := incunableref05_make2.mono_l k
 unfold incunableref05_make2.f
 repeat' first
   | (with_reducible exact ih0 _ _ _ _ _ _ _)
   | (with_reducible first | exact LeO.refl _ | exact LeO.none _ | refine LeO.ite ?_ ?_ | refine LeO.bind ?_ (fun _ => ?_))
set_option maxHeartbeats 8000000 in
set_option maxRecDepth 100000 in
theorem incunableref05_make2.calls (k : Nat) (a0 : Int) (a1 : Int) (a2 : Int) (r1 : Int) (r2 : Int) (r3 : List Int) (w : World) (h : incunableref05_make2.f k a0 a1 a2 = some (r1, r2, r3)) :
  Calls Try.prog 51 #[.int .i64 a0, .int .i64 a1, .int .i64 a2] w fun e w' => ∃ v2_ : Value, e = .returned (.agg #[.int .i64 r1, .int .i64 r2, v2_]) ∧ Kd.R (Kd.int .u8) 5 w' w.heap.size (fun _ => True) v2_ r3 ∧ Below w.heap.size w w' := by
 have hu24 := Try.underlying24
 have HB := Aside0.mk (Below.refl w.heap.size w)
 have H : (incunableref05_make2.l0 k a0 a1 a2 0 a0 a1 ([] : List Int)) = some (r1, r2, r3) := h
 clear h
 have H' := Aside0.mk H
 clear H
 go_enter Try.func51, Try.ntmps51
 go_wp2_with (first | ((with_reducible refine gd 6 rfl ?_); refine bx 6 #[.int .i64 0, .int .i64 0, .slice none 0 0] 24 rfl rfl ?_; intro gb358 hg w4 hbox hb; have n_ := aC (bs hb) (aC hbox (aC (gz hg) (aE (gz hg)))); clear HB; obtain ⟨HB, BK358, GW358, GE358⟩ := n_; clear hb hbox hg) | ((with_reducible refine gd 7 rfl ?_); refine bx 7 #[.int .i64 0, .int .i64 0, .slice none 0 0] 24 rfl rfl ?_; intro gb359 hg w5 hbox hb; have n_ := aC (blk_below (bU BK358.out) hb) (aC (bs hb) (aC hbox (aC (gz hg) (aC (gz hg) (aC (gn hg (bU BK358.out)) (aE (gm hg (bU BK358.out)))))))); clear BK358 HB; obtain ⟨BK358, HB, BK359, GW359, GE359, NB358_359, NB359_358⟩ := n_; clear hb hbox hg; have hnb6 := NB359_358.out; have hnc6 := NB358_359.out; obtain ⟨hcz7_0, hcz7_1, hcz7_2, hfz7_0, hfz7_1, hfz7_2⟩ := cz3f BK359.out))
 go_loopg [8] k (fun kq v8 w' => ∃ (x8_1 : Int) (x360002_1 : List Int) (u360002 : Value), v8 = .int .i64 x8_1 ∧ Aside0 (incunableref05_make2.l0 kq a0 a1 a2 x8_1 a0 a1 x360002_1 = some (r1, r2, r3)) ∧ Aside0 (kq ≤ k) ∧ Aside0 (Kd.R (Kd.int .u8) 5 w' w.heap.size (fun _ => True) u360002 x360002_1) ∧ Aside0 (w'.heap[gb358]? = some (.cells #[.int .i64 0, .int .i64 0, (.slice none 0 0)] 24 (0, 0))) ∧ Aside0 (w'.heap[gb359]? = some (.cells #[.int .i64 a0, .int .i64 a1, u360002] 24 (0, 0))) ∧ Aside0 (Below w.heap.size w w'))
 case atStart => exact ⟨(0), (([] : List Int)), (.slice none 0 0), rq, H', ⟨Nat.le_refl _⟩, ⟨by first | exact Kd.R_nil _ _ _ _ _ | exact Kd.N_nil _ _ _ _ _ | exact Kd.V_nil _ _ _ _ _ | exact Kd.Q_nil _ _ _ _ _ | exact Kd.S_nil _ _ _ _ _⟩, ⟨by refine bF ?_ ?_; exact NB358_359.out; refine bF ?_ ?_; exact NB358_359.out; refine bF ?_ ?_; exact NB358_359.out; exact bU BK358.out⟩, ⟨by (with_reducible repeat (first | refine blk_drewN ?_ _ | refine blk_drew ?_ | refine blk_alloc ?_ _)); refine blk_put (cs := #[.int .i64 a0, .int .i64 a1, .slice none 0 0]) ?_ 2 _ rfl; (with_reducible repeat (first | refine blk_drewN ?_ _ | refine blk_drew ?_ | refine blk_alloc ?_ _)); refine blk_put (cs := #[.int .i64 a0, .int .i64 0, .slice none 0 0]) ?_ 1 _ rfl; (with_reducible repeat (first | refine blk_drewN ?_ _ | refine blk_drew ?_ | refine blk_alloc ?_ _)); refine blk_put (cs := #[.int .i64 0, .int .i64 0, .slice none 0 0]) ?_ 0 _ rfl; exact bU BK359.out⟩, ⟨bl⟩⟩
 case round =>
  clear H'
  obtain ⟨x8_1, x360002_1, u360002, rfl, HA, HK1, HO_360002, BK358, BK359, HB⟩ := hrel
  cases gk with
  | zero => exact absurd HA.out (by simp [incunableref05_make2.l0])
  | succ k1 =>
   have H := HA.out
   clear HA
   simp only [incunableref05_make2.l0] at H
   rcases iL H with H1 | H1 <;> clear H <;> obtain ⟨H, c8b0⟩ := H1
   ·by_cases c9 : x360002_1.length < 140737488355328
    ·rw [if_pos c9] at H
     have LMc9 := Aside0.mk c9
     clear c9
     obtain ⟨y360, hy_⟩ : ∃ y_ : List Int, y_ = (x360002_1 ++ [(a2) % 256]) := ⟨_, rfl⟩
     replace H : (incunableref05_make2.l0 k1 a0 a1 a2 (wrap64 (x8_1 + 1)) a0 a1 y360) = some (r1, r2, r3) := rh
     have Ny360 := aE hy_
     clear hy_
     have H' := Aside0.mk H
     clear H
     have hnb10 := NB359_358.out
     have hnc10 := NB358_359.out
     obtain ⟨hcz11_0, hcz11_1, hcz11_2, hfz11_0, hfz11_1, hfz11_2⟩ := cz3f BK359.out
     go_wp2_with (first | ((with_reducible refine gate_builtin (b := .append) (xs := #[.tmp 20, .tmp 23]) rfl ?_); at_builtin; refine Kd.R_append (Kd.int .u8) (w0 := w) w.heap.size rfl (.tmp 20) (.tmp 23) 22 5 (.int .u8 0) 1 rfl Try.underlying22 info5 rfl (by decide) (by omega) u360002 x360002_1 ((a2) % 256) [.int .u8 ((a2) % 256)] (fun _ => True) (fun _ => False) rfl rfl ?aP (fun _ hk => hk.elim) ?aF ?aO ?aB ?aS ?aL ?_; (case aP => exact rfl); (case aB => exact bl); (case aF => exact (fun _ _ => trivial)); (case aO => exact (rU HO_360002.out)); (case aS => exact bz); (case aL => have := LMc9.out; omega); intro v361 w12 ho hb hg hat; rw [← Ny360.out] at ho; have n_ := aC (blk_grown (bU BK358.out) hg (Kd.R_ne HO_360002.out BK358.out (by decide))) (aC (blk_grown (bU BK359.out) hg (Kd.R_ne HO_360002.out BK359.out (by decide))) (aC hb (aE ho))); clear BK358 BK359 HB HO_360002; obtain ⟨BK358, BK359, HB, HO362⟩ := n_; clear ho hb hg hat; obtain ⟨Ao13, co13, eo13⟩ := Kd.R_slice HO362.out; subst eo13; obtain ⟨hcz14_0, hcz14_1, hcz14_2, hfz14_0, hfz14_1, hfz14_2⟩ := cz3f BK359.out))
     go_roundg k1
     case measure => have := HK1.out; omega
     case rel => exact ⟨(wrap64 (x8_1 + 1)), (y360), (.slice Ao13 y360.length co13), rq, H', ⟨by have := HK1.out; omega⟩, ⟨rU (Kd.R_mono (Kd.R_far (p := ⟨gb359, 2, none⟩) (Kd.R_types HO362.out BK359.out (by decide)) (fun _ hk => hk.2) (.slice Ao13 y360.length co13)) (fun _ hk => trivial))⟩, ⟨by refine bF ?_ ?_; exact NB358_359.out; exact bU BK358.out⟩, ⟨by (with_reducible repeat (first | refine blk_drewN ?_ _ | refine blk_drew ?_ | refine blk_alloc ?_ _)); refine blk_put (cs := #[.int .i64 a0, .int .i64 a1, u360002]) ?_ 2 _ rfl; exact bU BK359.out⟩, ⟨bl⟩⟩
    ·rw [if_neg c9] at H
     exact absurd H (by simp)
   ·simp only [Option.some.injEq, Prod.mk.injEq] at H
    obtain ⟨rfl, rfl, rfl⟩ := H
    have hnb15 := NB359_358.out
    have hnc15 := NB358_359.out
    obtain ⟨hcz16_0, hcz16_1, hcz16_2, hfz16_0, hfz16_1, hfz16_2⟩ := cz3f BK359.out
    obtain ⟨hcz17_0, hcz17_1, hcz17_2, hfz17_0, hfz17_1, hfz17_2⟩ := cz3f BK358.out
    obtain ⟨Ao18, co18, eo18⟩ := Kd.R_slice HO_360002.out
    subst eo18
    go_wp2
    refine bodyPost_ret (results_cell_row rfl _ _ gb358 24 #[.int .i64 a0, .int .i64 a1, .slice Ao18 x360002_1.length co18] (0, 0) _ rfl (by (with_reducible repeat (first | refine blk_drewN ?_ _ | refine blk_drew ?_ | refine blk_alloc ?_ _)); refine blk_put (cs := #[.int .i64 a0, .int .i64 a1, .slice none 0 0]) ?_ 2 _ rfl; (with_reducible repeat (first | refine blk_drewN ?_ _ | refine blk_drew ?_ | refine blk_alloc ?_ _)); refine blk_put (cs := #[.int .i64 a0, .int .i64 0, .slice none 0 0]) ?_ 1 _ rfl; (with_reducible repeat (first | refine blk_drewN ?_ _ | refine blk_drew ?_ | refine blk_alloc ?_ _)); refine blk_put (cs := #[.int .i64 0, .int .i64 0, .slice none 0 0]) ?_ 0 _ rfl; exact bU BK358.out) Try.underlying24 rfl (by kernel_rfl)) rfl ?_
    exact ⟨_, re, rU (Kd.R_mono (Kd.R_far (p := ⟨gb358, 2, none⟩) (Kd.R_far (p := ⟨gb358, 1, none⟩) (Kd.R_far (p := ⟨gb358, 0, none⟩) (Kd.R_types HO_360002.out BK358.out (by decide)) (fun _ hk => hk.2) (.int .i64 a0)) (fun _ hk => hk.2) (.int .i64 a1)) (fun _ hk => hk.2) (.slice Ao18 x360002_1.length co18)) (fun _ hk => trivial)), bl⟩
def incunableref05_Put.f (a0_0 : Int) (a0_1 : Int) (l0_2 : List Int) (a1 : Int) (a2 : Int) (a3 : Int) : Option (List Int) := if 0 ≤ (wrap64 ((wrap64 (a2 * a0_0)) + a1)) then (if (wrap64 ((wrap64 (a2 * a0_0)) + a1)) < (l0_2.length : Int) then (some (l0_2.set ((wrap64 ((wrap64 (a2 * a0_0)) + a1)) : Int).toNat ((a3) % 256))) else (none)) else (none)
set_option maxHeartbeats 8000000 in
set_option maxRecDepth 100000 in
theorem incunableref05_Put.calls (a0_0 : Int) (a0_1 : Int) (P0_2_ : Nat → Prop) (u9000_ : Value) (l0_2 : List Int) (a1 : Int) (a2 : Int) (a3 : Int) (r : List Int) (w0 w : World) (hB : Below w0.heap.size w0 w) (ho0_2 : Kd.R (Kd.int .u8) 5 w w0.heap.size P0_2_ u9000_ l0_2) (h : incunableref05_Put.f a0_0 a0_1 l0_2 a1 a2 a3 = some r) :
  Calls Try.prog 52 #[.agg #[.int .i64 a0_0, .int .i64 a0_1, u9000_], .int .i64 a1, .int .i64 a2, .int .i64 a3] w fun e w' => e = .returned (.tuple #[]) ∧ Kd.R (Kd.int .u8) 5 w' w0.heap.size (fun k_ => (P0_2_ k_ ∨ w.heap.size ≤ k_)) u9000_ r ∧ Below w0.heap.size w0 w' ∧ Kept w w' (fun k_ => P0_2_ k_) := by
 have hu24 := Try.underlying24
 have HO0_2 := Aside0.mk (show Kd.R (Kd.int .u8) 5 w w0.heap.size (fun k_ => (P0_2_ k_ ∨ w.heap.size ≤ k_)) u9000_ l0_2 from Kd.R_mono ho0_2 (fun k_ hk => (.inl hk)))
 have HK := Aside0.mk (Kept.refl w (fun k_ => P0_2_ k_))
 have HW0 := Aside0.mk hB.size
 have HB := Aside0.mk hB
 clear hB
 have H := h
 unfold incunableref05_Put.f at H
 clear h
 obtain ⟨ji5, hji5⟩ : ∃ j_ : Int, (wrap64 ((wrap64 (a2 * a0_0)) + a1)) = j_ := ⟨_, rfl⟩
 replace H : (if 0 ≤ (ji5) then (if (ji5) < (l0_2.length : Int) then (some (l0_2.set ((ji5) : Int).toNat ((a3) % 256))) else (none)) else (none)) = some r := by first | (rw [hji5] at H; exact H) | (simp only [hji5] at H ⊢; exact H)
 have hji5w : (IntKind.i64.wrap ((wrap64 (a2 * a0_0)) + a1)) = ji5 := (i64_w _).trans hji5
 by_cases c6 : 0 ≤ (ji5)
 ·rw [if_pos c6] at H
  have c6b0 := decide_eq_true c6
  clear c6
  by_cases c7 : (ji5) < (l0_2.length : Int)
  ·rw [if_pos c7] at H
   have c7b0 := decide_eq_true c7
   clear c7
   obtain ⟨y364, hy_⟩ : ∃ y_ : List Int, y_ = (l0_2.set ((ji5) : Int).toNat ((a3) % 256)) := ⟨_, rfl⟩
   replace H : (some y364) = some r := rh
   have Ny364 := aE hy_
   clear hy_
   obtain rfl := Option.some.inj H
   obtain ⟨Ao9, co9, eo9⟩ := Kd.R_slice HO0_2.out
   subst eo9
   go_enter Try.func52, Try.ntmps52
   go_wp2_with (first | ((with_reducible refine gd 4 rfl ?_); refine bx 4 #[.int .i64 a0_0, .int .i64 a0_1, .slice Ao9 l0_2.length co9] 24 rfl rfl ?_; intro gb363 hg w10 hbox hb; have n_ := aC (Kd.R_below (rU HO0_2.out) hb) (aC (Kept.below (S := (fun k_ => P0_2_ k_)) (by repeat (first | (with_reducible first | exact HK.out | apply Kept.alloc | apply Kept.drewN | apply Kept.drew) | exact HK.out)) hb) (aC (bs hb) (aC hbox (aC ((by rw [hg]; exact (by first | exact HK.out.1 | exact (show Kept w _ (fun k_ => P0_2_ k_) from by repeat (first | (with_reducible first | exact HK.out | apply Kept.alloc | apply Kept.drewN | apply Kept.drew) | exact HK.out)).1) : w.heap.size ≤ gb363)) (aE ((by rw [hg]; exact bz : w0.heap.size ≤ gb363))))))); clear HO0_2 HK HB; obtain ⟨HO0_2, HK, HB, BK363, GW363, GE363⟩ := n_; clear hb hbox hg; obtain ⟨hcz11_0, hcz11_1, hcz11_2, hfz11_0, hfz11_1, hfz11_2⟩ := cz3f BK363.out; have p8 : 0 ≤ ((ji5) : Int) := dt; have q8 : ((ji5) : Int) < ((l0_2.length : Int) : Int) := dt; obtain ⟨go8, co8, eo8, gb8, gl8, cl8, HG8⟩ := Kd.R_form HO0_2.out (by omega); (first | cases eo8 | (injection eo8 with ea_ en_ ec_; (first | subst ea_ | (injection ea_ with ea_; subst ea_)); subst ec_; clear en_)); have GB8 := Aside0.mk gb8; have GG8 := Aside0.mk HG8; clear gb8 gl8 HG8; have HMgo8 := Aside0.mk (show (P0_2_ go8 ∨ w.heap.size ≤ go8) from (HO0_2.out.1 _ rfl)); obtain ⟨hx8_0, hf8_0⟩ := Kd.R_celln 0 HO0_2.out ((ji5) : Int) p8 q8; replace p8 := eq_true p8; replace q8 := eq_true q8; obtain ⟨hy12_, hz12_⟩ := Kd.R_celln 0 HO0_2.out ((ji5) : Int) (dt) (dt); have HP12 := Kd.R_putg HO0_2.out ((ji5) : Int) ((a3) % 256)) | ((with_reducible refine gate_store (t := 5) (p := 18) rfl ?_); refine store_event (t := 5) (p := 18) (v := ?vo_w13) (w1 := (w10.setCell ⟨go8, ((ji5) : Int).toNat, none⟩ (.int .u8 ((a3) % 256)))) ?hg ?ho ?hn ?hr ?_; (case ho => rfl); (case hg => rfl); (case hn => rfl); (case hr => first | (go_simp; done) | (go_simp; rfl)); intro w13 hw; have hg : w10.grownBy w13 (some go8) := (by rw [hw]; exact HP12.2); have hp_ : Kd.R (Kd.int .u8) 5 w13 w0.heap.size (fun k_ => (P0_2_ k_ ∨ w.heap.size ≤ k_)) (.slice (some ⟨go8, 0, none⟩) l0_2.length co9) y364 := (by rw [hw, Ny364.out]; exact HP12.1); clear HP12; have n_ := aC hp_ (aC (blk_grown (bU BK363.out) hg (Kd.R_ne HO0_2.out BK363.out (by decide))) (aC ((by rw [hw]; exact below_set (HB.out) GB8.out : Below w0.heap.size w0 w13)) (aE (Kept.of_grown (S := (fun k_ => P0_2_ k_)) hg (by repeat (first | (with_reducible first | exact HK.out | apply Kept.alloc | apply Kept.drewN | apply Kept.drew | refine Kept.setCell ?_ (.inr GW363.out) _) | exact HK.out)) (fun k_ e_ => (HO0_2.out.1 k_ e_)))))); clear HO0_2 BK363 HB HK; obtain ⟨HO0_2, BK363, HB, HK⟩ := n_; clear hg hw hp_))
   first | go_end0 | ((try simp only [Exit.inBlock, Exit.then]); refine bodyPost_ret (results_none rfl _ _ _) rfl ?_)
   exact ⟨by first | rfl | (simp [errW_none, errW_some] <;> rfl) | (simp only [← hji5]; first | rfl | (simp [errW_none, errW_some] <;> rfl)) | (simp [*, errW_none, errW_some] <;> rfl), rU HO0_2.out, bl, by repeat (first | (with_reducible first | exact HK.out | apply Kept.alloc | apply Kept.drewN | apply Kept.drew | refine Kept.setCell ?_ (.inr GW363.out) _) | exact HK.out)⟩
  ·rw [if_neg c7] at H
   exact absurd H (by simp)
 ·rw [if_neg c6] at H
  exact absurd H (by simp)
end Go.Proofs.Ytnnbfkmmjclhaaa.PScanSpecks
