-- printed (wip/tools/myprint.py)
import Derived.Test.YtnnbfkmmjclhaaaPScanSpecksx0
import Derived.Test.YtnnbfkmmjclhaaaPScanSpecksx8
import Derived.Test.YtnnbfkmmjclhaaaPScanSpecksx11
namespace Go.Proofs.Ytnnbfkmmjclhaaa.PScanSpecks
open Go.RowKit Go.Proofs.YtnnbfkmmjclhaaaW.PrintWords Go.Proofs.YtnnbfkmmjclhaaaW.PrintLast Go.Proofs.YtnnbfkmmjclhaaaW.PrintMore
attribute [local go_sem] max2_int min2_int max_two min_two max_three min_three max_four min_four
set_option linter.unusedVariables false
set_option linter.unusedSimpArgs false
mutual
def incunableref05_Part.l0 : Nat → Int → Int → Int → Int → Int → Int → Int → List Int → Int → Int → List Int → Option (Int × Int × List Int)
 | 0, _, _, _, _, _, _, _, _, _, _, _ => none
 | k + 1, x1, x2, x3, x4, x12, x366000, x366001, x366002, x373000, x373001, x373002 => if x12 < x4 then (incunableref05_Part.l1 k x1 x2 x3 x4 x12 0 x366000 x366001 x366002 x373000 x373001 x373002) else (some (x373000, x373001, x373002))
def incunableref05_Part.l1 : Nat → Int → Int → Int → Int → Int → Int → Int → Int → List Int → Int → Int → List Int → Option (Int × Int × List Int)
 | 0, _, _, _, _, _, _, _, _, _, _, _, _ => none
 | k + 1, x1, x2, x3, x4, x12, x13, x366000, x366001, x366002, x373000, x373001, x373002 => if x13 < x3 then ((incunableref05_At.f x366000 x366001 x366002 (wrap64 (x1 + x13)) (wrap64 (x2 + x12))).bind fun t373 => ((incunableref05_Put.f x373000 x373001 x373002 x13 x12 t373).bind fun t374 => (incunableref05_Part.l1 k x1 x2 x3 x4 x12 (wrap64 (x13 + 1)) x366000 x366001 x366002 x373000 x373001 t374))) else (incunableref05_Part.l0 k x1 x2 x3 x4 (wrap64 (x12 + 1)) x366000 x366001 x366002 x373000 x373001 x373002)
end
def incunableref05_Part.f (k : Nat) (a0_0 : Int) (a0_1 : Int) (l0_2 : List Int) (a1 : Int) (a2 : Int) (a3 : Int) (a4 : Int) : Option (Int × Int × List Int) := (incunableref05_make2.f k a3 a4 0).bind fun bt367 => (incunableref05_Part.l0 k a1 a2 a3 a4 0 a0_0 a0_1 l0_2 bt367.1 bt367.2.1 bt367.2.2)
theorem incunableref05_Part.mono_l : ∀ k, (∀ y0 y1 y2 y3 y4 y5 y6 y7 y8 y9 y10, LeO (incunableref05_Part.l0 k y0 y1 y2 y3 y4 y5 y6 y7 y8 y9 y10) (incunableref05_Part.l0 (k + 1) y0 y1 y2 y3 y4 y5 y6 y7 y8 y9 y10)) ∧ (∀ y0 y1 y2 y3 y4 y5 y6 y7 y8 y9 y10 y11, LeO (incunableref05_Part.l1 k y0 y1 y2 y3 y4 y5 y6 y7 y8 y9 y10 y11) (incunableref05_Part.l1 (k + 1) y0 y1 y2 y3 y4 y5 y6 y7 y8 y9 y10 y11))
 | 0 => ⟨fun _ _ _ _ _ _ _ _ _ _ _ r h => by simp [incunableref05_Part.l0] at h, fun _ _ _ _ _ _ _ _ _ _ _ _ r h => by simp [incunableref05_Part.l1] at h⟩
 | k + 1 => by
  obtain ⟨ih0, ih1⟩ := incunableref05_Part.mono_l k
  refine ⟨?_, ?_⟩
  ·intro y0 y1 y2 y3 y4 y5 y6 y7 y8 y9 y10
   unfold incunableref05_Part.l0
   repeat' first
   | (with_reducible exact ih0 _ _ _ _ _ _ _ _ _ _ _)
   | (with_reducible exact ih1 _ _ _ _ _ _ _ _ _ _ _ _)
   | (with_reducible exact incunableref05_make2.mono _ _ _ _)
   | (with_reducible first | exact LeO.refl _ | exact LeO.none _ | refine LeO.ite ?_ ?_ | refine LeO.bind ?_ (fun _ => ?_))
  ·intro y0 y1 y2 y3 y4 y5 y6 y7 y8 y9 y10 y11
   unfold incunableref05_Part.l1
   repeat' first
   | (with_reducible exact ih0 _ _ _ _ _ _ _ _ _ _ _)
   | (with_reducible exact ih1 _ _ _ _ _ _ _ _ _ _ _ _)
   | (with_reducible exact incunableref05_make2.mono _ _ _ _)
   | (with_reducible first | exact LeO.refl _ | exact LeO.none _ | refine LeO.ite ?_ ?_ | refine LeO.bind ?_ (fun _ => ?_))
theorem incunableref05_Part.mono : ∀ a0 a1 a2 a3 a4 a5 a6 k, LeO (incunableref05_Part.f k a0 a1 a2 a3 a4 a5 a6) (incunableref05_Part.f (k + 1) a0 a1 a2 a3 a4 a5 a6) := by
 intro a0 a1 a2 a3 a4 a5 a6 k
 obtain ⟨ih0, ih1⟩ := incunableref05_Part.mono_l k
 unfold incunableref05_Part.f
 repeat' first
   | (with_reducible exact ih0 _ _ _ _ _ _ _ _ _ _ _)
   | (with_reducible exact ih1 _ _ _ _ _ _ _ _ _ _ _ _)
   | (with_reducible exact incunableref05_make2.mono _ _ _ _)
   | (with_reducible first | exact LeO.refl _ | exact LeO.none _ | refine LeO.ite ?_ ?_ | refine LeO.bind ?_ (fun _ => ?_))
def incunableref05_Part.T8 : Bool × List (List Nat × List Nat) := (true, [([], []), ([], []), ([], []), ([], []), ([], []), ([], []), ([4, 5], [4, 5]), ([], []), ([], []), ([7, 8], [7, 8]), ([3, 6, 9], [3, 6, 9]), ([0, 1, 2, 10, 10], [0, 1, 2, 10])])
def incunableref05_Part.B8 : List Nat := [0, 0, 0, 0, 0, 0, 48, 0, 0, 384, 1016, 2047]
theorem incunableref05_Part.tab8 : rtab .any (opsOf Try.f35 8) = incunableref05_Part.T8 := by kernel_rfl
theorem incunableref05_Part.bits8 : waitsOk incunableref05_Part.T8.2 incunableref05_Part.B8 = true := by kernel_rfl
set_option maxHeartbeats 8000000 in
set_option maxRecDepth 100000 in
theorem incunableref05_Part.calls (k : Nat) (a0_0 : Int) (a0_1 : Int) (A0_2 : Option Addr) (c0_2 : Nat) (l0_2 : List Int) (a1 : Int) (a2 : Int) (a3 : Int) (a4 : Int) (r1 : Int) (r2 : Int) (r3 : List Int) (w : World) (hr0_2 : Kd.C (Kd.int .u8) w A0_2 l0_2.length l0_2) (hc0_2 : l0_2.length ≤ c0_2) (h : incunableref05_Part.f k a0_0 a0_1 l0_2 a1 a2 a3 a4 = some (r1, r2, r3)) :
  Calls Try.prog 35 #[.agg #[.int .i64 a0_0, .int .i64 a0_1, .slice A0_2 l0_2.length c0_2], .int .i64 a1, .int .i64 a2, .int .i64 a3, .int .i64 a4] w fun e w' => ∃ v2_ : Value, e = .returned (.agg #[.int .i64 r1, .int .i64 r2, v2_]) ∧ Kd.R (Kd.int .u8) 5 w' w.heap.size (fun _ => True) v2_ r3 ∧ Below w.heap.size w w' := by
 have hu24 := Try.underlying24
 have HR0_2 := Aside0.mk hr0_2
 have HC0_2 := Aside0.mk hc0_2
 clear hr0_2 hc0_2
 have HB := Aside0.mk (Below.refl w.heap.size w)
 have H := h
 unfold incunableref05_Part.f at H
 clear h
 obtain ⟨⟨t367, t368, t369⟩, A6, H⟩ := oB H
 try dsimp only at H
 have H' := Aside0.mk H
 clear H
 go_enter Try.func35, Try.ntmps35
 go_wp2_with (first | ((with_reducible refine gd 5 rfl ?_); refine bx 5 #[.int .i64 a0_0, .int .i64 a0_1, .slice A0_2 l0_2.length c0_2] 24 rfl rfl ?_; intro gb365 hg w7 hbox hb; have n_ := aC (bs hb) (aC hbox (aC (gz hg) (aE (gz hg)))); clear HB; obtain ⟨HB, BK365, GW365, GE365⟩ := n_; clear hb hbox hg) | ((with_reducible refine gd 10 rfl ?_); refine bx 10 #[.int .i64 0, .int .i64 0, .slice none 0 0] 24 rfl rfl ?_; intro gb366 hg w8 hbox hb; have n_ := aC (blk_below (bU BK365.out) hb) (aC (bs hb) (aC hbox (aC (gz hg) (aC (gz hg) (aC (gn hg (bU BK365.out)) (aE (gm hg (bU BK365.out)))))))); clear BK365 HB; obtain ⟨BK365, HB, BK366, GW366, GE366, NB365_366, NB366_365⟩ := n_; clear hb hbox hg) | ((with_reducible refine gf 51 rfl ?_); refine gL (some 16) rfl rfl Try.func51 rfl #[.int .i64 a3, .int .i64 a4, .int .i64 0] rfl ?_; (with_reducible refine (incunableref05_make2.calls k a3 a4 0 t367 t368 t369 _ A6.out).mono ?_); rintro e w9 ⟨v370, rfl, ho0, hb⟩; refine ⟨_, rfl, ?_⟩; have n_ := aC (Kd.R_lower ho0 bz) (aC (blk_below (bU BK365.out) hb) (aC (blk_below (bU BK366.out) hb) (aE (bs hb)))); clear BK365 BK366 HB; obtain ⟨HO371, BK365, BK366, HB⟩ := n_) | ((with_reducible refine gd 11 rfl ?_); refine bx 11 #[.int .i64 0, .int .i64 0, .slice none 0 0] 24 rfl rfl ?_; intro gb372 hg w10 hbox hb; have n_ := aC (Kd.R_below (rU HO371.out) hb) (aC (blk_below (bU BK365.out) hb) (aC (blk_below (bU BK366.out) hb) (aC (bs hb) (aC hbox (aC (gz hg) (aC (gz hg) (aC (gn hg (bU BK365.out)) (aC (gm hg (bU BK365.out)) (aC (gn hg (bU BK366.out)) (aE (gm hg (bU BK366.out)))))))))))); clear HO371 BK365 BK366 HB; obtain ⟨HO371, BK365, BK366, HB, BK372, GW372, GE372, NB365_372, NB372_365, NB366_372, NB372_366⟩ := n_; clear hb hbox hg; have hnb11 := NB372_365.out; have hnc11 := NB365_372.out; have hnb12 := NB372_366.out; have hnc12 := NB366_372.out; obtain ⟨hcz13_0, hcz13_1, hcz13_2, hfz13_0, hfz13_1, hfz13_2⟩ := cz3f BK372.out; obtain ⟨Ao14, co14, eo14⟩ := Kd.R_slice HO371.out; subst eo14))
 go_loopg [12] k (fun kq v12 w' => ∃ (x12_1 : Int) (x373002_1 : List Int) (u373002 : Value), v12 = .int .i64 x12_1 ∧ Aside0 (incunableref05_Part.l0 kq a1 a2 a3 a4 x12_1 a0_0 a0_1 l0_2 t367 t368 x373002_1 = some (r1, r2, r3)) ∧ Aside0 (kq ≤ k) ∧ Aside0 (Kd.R (Kd.int .u8) 5 w' w.heap.size (fun _ => True) u373002 x373002_1) ∧ Aside0 (w'.heap[gb365]? = some (.cells #[.int .i64 a0_0, .int .i64 a0_1, (.slice A0_2 l0_2.length c0_2)] 24 (0, 0))) ∧ Aside0 (w'.heap[gb366]? = some (.cells #[.int .i64 0, .int .i64 0, (.slice none 0 0)] 24 (0, 0))) ∧ Aside0 (w'.heap[gb372]? = some (.cells #[.int .i64 t367, .int .i64 t368, u373002] 24 (0, 0))) ∧ Aside0 (Below w.heap.size w w'))
 case atStart => exact ⟨(0), (t369), (.slice Ao14 t369.length co14), rq, H', ⟨Nat.le_refl _⟩, ⟨rU (Kd.R_mono (Kd.R_far (p := ⟨gb372, 2, none⟩) (Kd.R_far (p := ⟨gb372, 1, none⟩) (Kd.R_far (p := ⟨gb372, 0, none⟩) (Kd.R_types HO371.out BK372.out (by decide)) (fun _ hk => hk.2) (.int .i64 t367)) (fun _ hk => hk.2) (.int .i64 t368)) (fun _ hk => hk.2) (.slice Ao14 t369.length co14)) (fun _ hk => trivial))⟩, ⟨by refine bF ?_ ?_; exact NB365_372.out; refine bF ?_ ?_; exact NB365_372.out; refine bF ?_ ?_; exact NB365_372.out; exact bU BK365.out⟩, ⟨by refine bF ?_ ?_; exact NB366_372.out; refine bF ?_ ?_; exact NB366_372.out; refine bF ?_ ?_; exact NB366_372.out; exact bU BK366.out⟩, ⟨by (with_reducible repeat (first | refine blk_drewN ?_ _ | refine blk_drew ?_ | refine blk_alloc ?_ _)); refine blk_put (cs := #[.int .i64 t367, .int .i64 t368, .slice none 0 0]) ?_ 2 _ rfl; (with_reducible repeat (first | refine blk_drewN ?_ _ | refine blk_drew ?_ | refine blk_alloc ?_ _)); refine blk_put (cs := #[.int .i64 t367, .int .i64 0, .slice none 0 0]) ?_ 1 _ rfl; (with_reducible repeat (first | refine blk_drewN ?_ _ | refine blk_drew ?_ | refine blk_alloc ?_ _)); refine blk_put (cs := #[.int .i64 0, .int .i64 0, .slice none 0 0]) ?_ 0 _ rfl; exact bU BK372.out⟩, ⟨bl⟩⟩
 case round =>
  clear H'
  obtain ⟨x12_1, x373002_1, u373002, rfl, HA, HK1, HO_373002, BK365, BK366, BK372, HB⟩ := hrel
  cases gk with
  | zero => exact absurd HA.out (by simp [incunableref05_Part.l0])
  | succ k1 =>
   have H := HA.out
   clear HA
   simp only [incunableref05_Part.l0] at H
   rcases iL H with H1 | H1 <;> clear H <;> obtain ⟨H, c15b0⟩ := H1
   ·have H' := Aside0.mk H
    clear H
    go_wp2
    go_loopg [13] k1 (fun kq v13 w' => ∃ (x13_2 : Int) (x373002_2 : List Int) (u373002 : Value), v13 = .int .i64 x13_2 ∧ Aside0 (incunableref05_Part.l1 kq a1 a2 a3 a4 x12_1 x13_2 a0_0 a0_1 l0_2 t367 t368 x373002_2 = some (r1, r2, r3)) ∧ Aside0 (kq ≤ k1) ∧ Aside0 (Kd.R (Kd.int .u8) 5 w' w.heap.size (fun _ => True) u373002 x373002_2) ∧ Aside0 (w'.heap[gb365]? = some (.cells #[.int .i64 a0_0, .int .i64 a0_1, (.slice A0_2 l0_2.length c0_2)] 24 (0, 0))) ∧ Aside0 (w'.heap[gb366]? = some (.cells #[.int .i64 0, .int .i64 0, (.slice none 0 0)] 24 (0, 0))) ∧ Aside0 (w'.heap[gb372]? = some (.cells #[.int .i64 t367, .int .i64 t368, u373002] 24 (0, 0))) ∧ Aside0 (Below w.heap.size w w'))
    case atStart => exact ⟨(0), (x373002_1), (u373002), rq, H', ⟨Nat.le_refl _⟩, ⟨rU HO_373002.out⟩, ⟨by exact bU BK365.out⟩, ⟨by exact bU BK366.out⟩, ⟨by exact bU BK372.out⟩, ⟨bl⟩⟩
    case round =>
     clear H'
     obtain ⟨x13_2, x373002_2, u373002, rfl, HA, HK2, HO_373002, BK365, BK366, BK372, HB⟩ := hrel
     cases gk with
     | zero => exact absurd HA.out (by simp [incunableref05_Part.l1])
     | succ k2 =>
      have H := HA.out
      clear HA
      simp only [incunableref05_Part.l1] at H
      rcases iL H with H1 | H1 <;> clear H <;> obtain ⟨H, c16b0⟩ := H1
      ·obtain ⟨t373, A17, H⟩ := oB H
       try dsimp only at H
       obtain ⟨t374, A18, H⟩ := oB H
       try dsimp only at H
       have H' := Aside0.mk H
       clear H
       try go_wp2
       have n_ := aC (Kd.R_drew HO_373002.out) (aC (blk_drew BK365.out) (aC (blk_drew BK366.out) (aC (blk_drew BK372.out) (aE (below_drew1 HB.out)))))
       clear HO_373002 BK365 BK366 BK372 HB
       obtain ⟨HO_373002, BK365, BK366, BK372, HB⟩ := n_
       refine st 12 (fun w' => w'.cell? ⟨gb372, 0, none⟩ = some (.int .i64 t367) ∧ w'.cell? ⟨gb372, 1, none⟩ = some (.int .i64 t368) ∧ w'.cell? ⟨gb372, 2, none⟩ = some (u373002) ∧ w'.cell? ⟨gb365, 0, none⟩ = some (.int .i64 a0_0) ∧ w'.cell? ⟨gb365, 1, none⟩ = some (.int .i64 a0_1) ∧ w'.cell? ⟨gb365, 2, none⟩ = some (.slice A0_2 l0_2.length c0_2)) [] (bv 12 0) incunableref05_Part.tab8 incunableref05_Part.bits8 ⟨kc0 BK372.out, kc1 BK372.out, kc2 BK372.out, kc0 BK365.out, kc1 BK365.out, kc2 BK365.out⟩ (fun hHeld HT_ HW_ => ?_)
       generalize wr.drew = w19 at HO_373002 BK365 BK366 BK372 HB hHeld ⊢
       refine pu 1 28 (bv 12 2) HT_ rfl rfl ?_
       refine pu 2 29 (bv 12 6) HT_ rfl rfl ?_
       refine pu 4 31 (bv 12 22) HT_ rfl rfl ?_
       refine pu 5 32 (bv 12 54) HT_ rfl rfl ?_
       refine pu 6 33 (bv 12 118) HT_ rfl rfl ?_
       refine pu 7 34 (bv 12 246) HT_ rfl rfl ?_
       refine pu 8 35 (bv 12 502) HT_ rfl rfl ?_
       refine pu 9 36 (bv 12 1014) HT_ rfl rfl ?_
       refine tk 0 27 (bv 12 1015) HT_ HW_ hHeld rfl rfl (by rintro w' ⟨s0, s1, s2, s3, s4, s5⟩; exact yl) ?_
       refine tk 3 30 (bv 12 1023) HT_ HW_ hHeld rfl rfl (by rintro w' ⟨s0, s1, s2, s3, s4, s5⟩; exact yl) ?_
       refine one_ (i := 10) (N := some 37) (bv 12 2047) rfl rfl (one_of HT_.out (by kernel_rfl)) (by decide) (fun K hK => ?_)
       refine gK Try.func34 rfl #[.agg #[.int .i64 a0_0, .int .i64 a0_1, .slice A0_2 l0_2.length c0_2], .int .i64 (wrap64 (a1 + x13_2)), .int .i64 (wrap64 (a2 + x12_1))] rfl rfl ?_
       with_reducible refine (incunableref05_At.calls a0_0 a0_1 _ _ l0_2 (wrap64 (a1 + x13_2)) (wrap64 (a2 + x12_1)) t373 _ ?side1 ?side2 A17.out).mono ?_
       (case side1 => exact cU (Kd.C_below HR0_2.out HB.out))
       (case side2 => exact HC0_2.out)
       rintro e w20 ⟨rfl, hb⟩
       refine ⟨_, rfl, ?_⟩
       have n_ := aC (Kd.R_below (rU HO_373002.out) hb) (aC (blk_below (bU BK365.out) hb) (aC (blk_below (bU BK366.out) hb) (aC (blk_below (bU BK372.out) hb) (aE (bs hb)))))
       clear HO_373002 BK365 BK366 BK372 HB
       obtain ⟨HO_373002, BK365, BK366, BK372, HB⟩ := n_
       (try clear hb)
       (try clear hb2)
       (try clear hk)
       (try clear hi)
       obtain ⟨Ao21, co21, eo21⟩ := Kd.R_slice HO_373002.out
       (first | subst eo21 | (injection eo21 with f1_ f2_ f3_; have f4_ := f1_.symm; have f5_ := f3_.symm; clear f1_ f2_ f3_; subst f4_; subst f5_))
       refine hK.out _ _ ⟨kc0 BK372.out, kc1 BK372.out, kc2 BK372.out, kc0 BK365.out, kc1 BK365.out, kc2 BK365.out⟩ (fun hHeld => ?_)
       clear hK K
       refine nm (some 37) ?_
       refine one_ (i := 11) (N := some 38) (bv 12 4095) rfl rfl (one_of HT_.out (by kernel_rfl)) (by decide) (fun K hK => ?_)
       refine gK Try.func52 rfl #[.agg #[.int .i64 t367, .int .i64 t368, .slice Ao21 x373002_2.length co21], .int .i64 x13_2, .int .i64 x12_1, .int .i64 t373] rfl rfl ?_
       with_reducible refine (incunableref05_Put.calls t367 t368 (fun k_ => some k_ = (.slice Ao21 x373002_2.length co21 : Value).ownBlock) (.slice Ao21 x373002_2.length co21) x373002_2 x13_2 x12_1 t373 t374 w _ ?side1 ?side2 A18.out).mono ?_
       (case side1 => repeat (first | (with_reducible first | exact HB.out | apply below_alloc | apply pw_below_drewN | apply below_drew1 | refine below_set ?_ GE365.out | refine below_set ?_ GE366.out | refine below_set ?_ GE372.out) | exact HB.out))
       (case side2 => exact Kd.R_tight rfl HO_373002.out)
       rintro e w22 ⟨rfl, hy0, hb, hkp⟩
       refine ⟨_, rfl, ?_⟩
       have n_ := aC (Kd.R_reok rfl hy0 (fun k_ e_ => HO_373002.out.1 k_ e_)) (aC (blk_kept (bU BK365.out) hkp (fun hs_ => (fun e_ => (Kd.R_ne HO_373002.out BK365.out (by decide)) e_) hs_)) (aC (blk_kept (bU BK366.out) hkp (fun hs_ => (fun e_ => (Kd.R_ne HO_373002.out BK366.out (by decide)) e_) hs_)) (aC (blk_kept (bU BK372.out) hkp (fun hs_ => (fun e_ => (Kd.R_ne HO_373002.out BK372.out (by decide)) e_) hs_)) (aE hb))))
       clear HO_373002 BK365 BK366 BK372 HB
       obtain ⟨HO_373002, BK365, BK366, BK372, HB⟩ := n_
       (try clear hb)
       (try clear hkp)
       (try clear hy0)
       refine hK.out _ _ ⟨kc0 BK372.out, kc1 BK372.out, kc2 BK372.out, kc0 BK365.out, kc1 BK365.out, kc2 BK365.out⟩ (fun hHeld => ?_)
       clear hK K
       refine nm (some 38) ?_
       refine done_ (done_of HT_.out (by kernel_rfl)) ?_
       try go_wp2
       go_roundg k2
       case measure => have := HK1.out; have := HK2.out; omega
       case rel => exact ⟨(wrap64 (x13_2 + 1)), (t374), (.slice Ao21 x373002_2.length co21), rq, H', ⟨by have := HK1.out; have := HK2.out; omega⟩, ⟨rU HO_373002.out⟩, ⟨by exact bU BK365.out⟩, ⟨by exact bU BK366.out⟩, ⟨by exact bU BK372.out⟩, ⟨bl⟩⟩
      ·have H' := Aside0.mk H
       clear H
       go_wp2
       go_roundg k2
       case measure => have := HK1.out; have := HK2.out; omega
       case rel => exact ⟨(wrap64 (x12_1 + 1)), (x373002_2), (u373002), rq, H', ⟨by have := HK1.out; have := HK2.out; omega⟩, ⟨rU HO_373002.out⟩, ⟨by exact bU BK365.out⟩, ⟨by exact bU BK366.out⟩, ⟨by exact bU BK372.out⟩, ⟨bl⟩⟩
   ·simp only [Option.some.injEq, Prod.mk.injEq] at H
    obtain ⟨rfl, rfl, rfl⟩ := H
    have hnb23 := NB372_365.out
    have hnc23 := NB365_372.out
    have hnb24 := NB372_366.out
    have hnc24 := NB366_372.out
    obtain ⟨hcz25_0, hcz25_1, hcz25_2, hfz25_0, hfz25_1, hfz25_2⟩ := cz3f BK372.out
    have hnb26 := NB366_365.out
    have hnc26 := NB365_366.out
    obtain ⟨hcz27_0, hcz27_1, hcz27_2, hfz27_0, hfz27_1, hfz27_2⟩ := cz3f BK366.out
    obtain ⟨Ao28, co28, eo28⟩ := Kd.R_slice HO_373002.out
    subst eo28
    go_wp2
    refine bodyPost_ret (results_cell_row rfl _ _ gb366 24 #[.int .i64 t367, .int .i64 t368, .slice Ao28 x373002_1.length co28] (0, 0) _ rfl (by (with_reducible repeat (first | refine blk_drewN ?_ _ | refine blk_drew ?_ | refine blk_alloc ?_ _)); refine blk_put (cs := #[.int .i64 t367, .int .i64 t368, .slice none 0 0]) ?_ 2 _ rfl; (with_reducible repeat (first | refine blk_drewN ?_ _ | refine blk_drew ?_ | refine blk_alloc ?_ _)); refine blk_put (cs := #[.int .i64 t367, .int .i64 0, .slice none 0 0]) ?_ 1 _ rfl; (with_reducible repeat (first | refine blk_drewN ?_ _ | refine blk_drew ?_ | refine blk_alloc ?_ _)); refine blk_put (cs := #[.int .i64 0, .int .i64 0, .slice none 0 0]) ?_ 0 _ rfl; exact bU BK366.out) Try.underlying24 rfl (by kernel_rfl)) rfl ?_
    exact ⟨_, re, rU (Kd.R_mono (Kd.R_far (p := ⟨gb366, 2, none⟩) (Kd.R_far (p := ⟨gb366, 1, none⟩) (Kd.R_far (p := ⟨gb366, 0, none⟩) (Kd.R_types HO_373002.out BK366.out (by decide)) (fun _ hk => hk.2) (.int .i64 t367)) (fun _ hk => hk.2) (.int .i64 t368)) (fun _ hk => hk.2) (.slice Ao28 x373002_1.length co28)) (fun _ hk => trivial)), bl⟩
mutual
def incunableref05_Trim.l0 : Nat → Int → Int → Int → Int → Int → Int → Int → List Int → Option (Int × Int × List Int × Int × Int × Int)
 | 0, _, _, _, _, _, _, _, _ => none
 | k + 1, x6, x7, x8, x9, x10, x376000, x376001, x376002 => if x10 < x376001 then (incunableref05_Trim.l1 k x6 x7 x8 x9 x10 0 x376000 x376001 x376002) else (if x8 < 0 then (some (0, 0, ([] : List Int), 0, 0, 0)) else ((incunableref05_Part.f k x376000 x376001 x376002 x6 x7 (wrap64 ((wrap64 (x8 - x6)) + 1)) (wrap64 ((wrap64 (x9 - x7)) + 1))).bind fun bt378 => (some (bt378.1, bt378.2.1, bt378.2.2, x6, x7, 0))))
def incunableref05_Trim.l1 : Nat → Int → Int → Int → Int → Int → Int → Int → Int → List Int → Option (Int × Int × List Int × Int × Int × Int)
 | 0, _, _, _, _, _, _, _, _, _ => none
 | k + 1, x6, x7, x8, x9, x10, x11, x376000, x376001, x376002 => if x11 < x376000 then ((incunableref05_At.f x376000 x376001 x376002 x11 x10).bind fun t383 => (if t383 = 1 then (incunableref05_Trim.l1 k (mn x6 x11) (mn x7 x10) (mx x8 x11) (mx x9 x10) x10 (wrap64 (x11 + 1)) x376000 x376001 x376002) else (incunableref05_Trim.l1 k x6 x7 x8 x9 x10 (wrap64 (x11 + 1)) x376000 x376001 x376002))) else (incunableref05_Trim.l0 k x6 x7 x8 x9 (wrap64 (x10 + 1)) x376000 x376001 x376002)
end
def incunableref05_Trim.f (k : Nat) (a0_0 : Int) (a0_1 : Int) (l0_2 : List Int) : Option (Int × Int × List Int × Int × Int × Int) := (incunableref05_Valid.f k a0_0 a0_1 l0_2).bind fun t377 => (if t377 = true then (incunableref05_Trim.l0 k a0_0 a0_1 (-1) (-1) 0 a0_0 a0_1 l0_2) else (some (0, 0, ([] : List Int), 0, 0, 30)))
theorem incunableref05_Trim.mono_l : ∀ k, (∀ y0 y1 y2 y3 y4 y5 y6 y7, LeO (incunableref05_Trim.l0 k y0 y1 y2 y3 y4 y5 y6 y7) (incunableref05_Trim.l0 (k + 1) y0 y1 y2 y3 y4 y5 y6 y7)) ∧ (∀ y0 y1 y2 y3 y4 y5 y6 y7 y8, LeO (incunableref05_Trim.l1 k y0 y1 y2 y3 y4 y5 y6 y7 y8) (incunableref05_Trim.l1 (k + 1) y0 y1 y2 y3 y4 y5 y6 y7 y8))
 | 0 => ⟨fun _ _ _ _ _ _ _ _ r h => by simp [incunableref05_Trim.l0] at h, fun _ _ _ _ _ _ _ _ _ r h => by simp [incunableref05_Trim.l1] at h⟩
 | k + 1 => by
  obtain ⟨ih0, ih1⟩ := incunableref05_Trim.mono_l k
  refine ⟨?_, ?_⟩
  ·intro y0 y1 y2 y3 y4 y5 y6 y7
   unfold incunableref05_Trim.l0
   repeat' first
   | (with_reducible exact ih0 _ _ _ _ _ _ _ _)
   | (with_reducible exact ih1 _ _ _ _ _ _ _ _ _)
   | (with_reducible exact incunableref05_Part.mono _ _ _ _ _ _ _ _)
   | (with_reducible exact incunableref05_Valid.mono _ _ _ _)
   | (with_reducible first | exact LeO.refl _ | exact LeO.none _ | refine LeO.ite ?_ ?_ | refine LeO.bind ?_ (fun _ => ?_))
  ·intro y0 y1 y2 y3 y4 y5 y6 y7 y8
   unfold incunableref05_Trim.l1
   repeat' first
   | (with_reducible exact ih0 _ _ _ _ _ _ _ _)
   | (with_reducible exact ih1 _ _ _ _ _ _ _ _ _)
   | (with_reducible exact incunableref05_Part.mono _ _ _ _ _ _ _ _)
   | (with_reducible exact incunableref05_Valid.mono _ _ _ _)
   | (with_reducible first | exact LeO.refl _ | exact LeO.none _ | refine LeO.ite ?_ ?_ | refine LeO.bind ?_ (fun _ => ?_))
theorem incunableref05_Trim.mono : ∀ a0 a1 a2 k, LeO (incunableref05_Trim.f k a0 a1 a2) (incunableref05_Trim.f (k + 1) a0 a1 a2) := by
 intro a0 a1 a2 k
 obtain ⟨ih0, ih1⟩ := incunableref05_Trim.mono_l k
 unfold incunableref05_Trim.f
 repeat' first
   | (with_reducible exact ih0 _ _ _ _ _ _ _ _)
   | (with_reducible exact ih1 _ _ _ _ _ _ _ _ _)
   | (with_reducible exact incunableref05_Part.mono _ _ _ _ _ _ _ _)
   | (with_reducible exact incunableref05_Valid.mono _ _ _ _)
   | (with_reducible first | exact LeO.refl _ | exact LeO.none _ | refine LeO.ite ?_ ?_ | refine LeO.bind ?_ (fun _ => ?_))
set_option maxHeartbeats 8000000 in
set_option maxRecDepth 100000 in
theorem incunableref05_Trim.calls (k : Nat) (a0_0 : Int) (a0_1 : Int) (A0_2 : Option Addr) (c0_2 : Nat) (l0_2 : List Int) (r1 : Int) (r2 : Int) (r3 : List Int) (r4 : Int) (r5 : Int) (r6 : Int) (w : World) (hr0_2 : Kd.C (Kd.int .u8) w A0_2 l0_2.length l0_2) (hc0_2 : l0_2.length ≤ c0_2) (h : incunableref05_Trim.f k a0_0 a0_1 l0_2 = some (r1, r2, r3, r4, r5, r6)) :
  Calls Try.prog 21 #[.agg #[.int .i64 a0_0, .int .i64 a0_1, .slice A0_2 l0_2.length c0_2]] w fun e w' => ∃ v2_ : Value, e = .returned (.tuple #[.agg #[.int .i64 r1, .int .i64 r2, v2_], .int .i64 r4, .int .i64 r5, .int .i64 r6]) ∧ Kd.R (Kd.int .u8) 5 w' w.heap.size (fun _ => True) v2_ r3 ∧ Below w.heap.size w w' := by
 have hu24 := Try.underlying24
 have HR0_2 := Aside0.mk hr0_2
 have HC0_2 := Aside0.mk hc0_2
 clear hr0_2 hc0_2
 have HB := Aside0.mk (Below.refl w.heap.size w)
 have H := h
 unfold incunableref05_Trim.f at H
 clear h
 obtain ⟨t377, A2, H⟩ := oB H
 try dsimp only at H
 by_cases c3 : t377 = true
 ·subst c3
  rw [if_pos rfl] at H
  have H' := Aside0.mk H
  clear H
  go_enter Try.func21, Try.ntmps21
  go_wp2_with (first | ((with_reducible refine gd 1 rfl ?_); refine bx 1 #[.int .i64 a0_0, .int .i64 a0_1, .slice A0_2 l0_2.length c0_2] 24 rfl rfl ?_; intro gb375 hg w4 hbox hb; have n_ := aC (bs hb) (aC hbox (aC (gz hg) (aE (gz hg)))); clear HB; obtain ⟨HB, BK375, GW375, GE375⟩ := n_; clear hb hbox hg) | ((with_reducible refine gd 2 rfl ?_); refine bx 2 #[.int .i64 0, .int .i64 0, .slice none 0 0] 24 rfl rfl ?_; intro gb376 hg w5 hbox hb; have n_ := aC (blk_below (bU BK375.out) hb) (aC (bs hb) (aC hbox (aC (gz hg) (aC (gz hg) (aC (gn hg (bU BK375.out)) (aE (gm hg (bU BK375.out)))))))); clear BK375 HB; obtain ⟨BK375, HB, BK376, GW376, GE376, NB375_376, NB376_375⟩ := n_; clear hb hbox hg; have hnb6 := NB375_376.out; have hnc6 := NB376_375.out; obtain ⟨hcz7_0, hcz7_1, hcz7_2, hfz7_0, hfz7_1, hfz7_2⟩ := cz3f BK375.out) | (go_at_call 18; (with_reducible refine (incunableref05_Valid.calls k a0_0 a0_1 _ _ l0_2 true _ ?side1 ?side2 A2.out).mono ?_); (case side1 => exact cU (Kd.C_below HR0_2.out HB.out)); (case side2 => exact HC0_2.out); rintro e w8 ⟨rfl, hb⟩; have n_ := aC (blk_below (bU BK375.out) hb) (aC (blk_below (bU BK376.out) hb) (aE (bs hb))); clear BK375 BK376 HB; obtain ⟨BK375, BK376, HB⟩ := n_; obtain ⟨hcz9_0, hcz9_1, hcz9_2, hfz9_0, hfz9_1, hfz9_2⟩ := cz3f BK375.out))
  repeat (go_quiet (first | ((with_reducible refine gd 1 rfl ?_); refine bx 1 #[.int .i64 a0_0, .int .i64 a0_1, .slice A0_2 l0_2.length c0_2] 24 rfl rfl ?_; intro gb375 hg w4 hbox hb; have n_ := aC (bs hb) (aC hbox (aC (gz hg) (aE (gz hg)))); clear HB; obtain ⟨HB, BK375, GW375, GE375⟩ := n_; clear hb hbox hg) | ((with_reducible refine gd 2 rfl ?_); refine bx 2 #[.int .i64 0, .int .i64 0, .slice none 0 0] 24 rfl rfl ?_; intro gb376 hg w5 hbox hb; have n_ := aC (blk_below (bU BK375.out) hb) (aC (bs hb) (aC hbox (aC (gz hg) (aC (gz hg) (aC (gn hg (bU BK375.out)) (aE (gm hg (bU BK375.out)))))))); clear BK375 HB; obtain ⟨BK375, HB, BK376, GW376, GE376, NB375_376, NB376_375⟩ := n_; clear hb hbox hg; have hnb6 := NB375_376.out; have hnc6 := NB376_375.out; obtain ⟨hcz7_0, hcz7_1, hcz7_2, hfz7_0, hfz7_1, hfz7_2⟩ := cz3f BK375.out) | (go_at_call 18; (with_reducible refine (incunableref05_Valid.calls k a0_0 a0_1 _ _ l0_2 true _ ?side1 ?side2 A2.out).mono ?_); (case side1 => exact cU (Kd.C_below HR0_2.out HB.out)); (case side2 => exact HC0_2.out); rintro e w8 ⟨rfl, hb⟩; have n_ := aC (blk_below (bU BK375.out) hb) (aC (blk_below (bU BK376.out) hb) (aE (bs hb))); clear BK375 BK376 HB; obtain ⟨BK375, BK376, HB⟩ := n_; obtain ⟨hcz9_0, hcz9_1, hcz9_2, hfz9_0, hfz9_1, hfz9_2⟩ := cz3f BK375.out)); try go_wp2_with (first | ((with_reducible refine gd 1 rfl ?_); refine bx 1 #[.int .i64 a0_0, .int .i64 a0_1, .slice A0_2 l0_2.length c0_2] 24 rfl rfl ?_; intro gb375 hg w4 hbox hb; have n_ := aC (bs hb) (aC hbox (aC (gz hg) (aE (gz hg)))); clear HB; obtain ⟨HB, BK375, GW375, GE375⟩ := n_; clear hb hbox hg) | ((with_reducible refine gd 2 rfl ?_); refine bx 2 #[.int .i64 0, .int .i64 0, .slice none 0 0] 24 rfl rfl ?_; intro gb376 hg w5 hbox hb; have n_ := aC (blk_below (bU BK375.out) hb) (aC (bs hb) (aC hbox (aC (gz hg) (aC (gz hg) (aC (gn hg (bU BK375.out)) (aE (gm hg (bU BK375.out)))))))); clear BK375 HB; obtain ⟨BK375, HB, BK376, GW376, GE376, NB375_376, NB376_375⟩ := n_; clear hb hbox hg; have hnb6 := NB375_376.out; have hnc6 := NB376_375.out; obtain ⟨hcz7_0, hcz7_1, hcz7_2, hfz7_0, hfz7_1, hfz7_2⟩ := cz3f BK375.out) | (go_at_call 18; (with_reducible refine (incunableref05_Valid.calls k a0_0 a0_1 _ _ l0_2 true _ ?side1 ?side2 A2.out).mono ?_); (case side1 => exact cU (Kd.C_below HR0_2.out HB.out)); (case side2 => exact HC0_2.out); rintro e w8 ⟨rfl, hb⟩; have n_ := aC (blk_below (bU BK375.out) hb) (aC (blk_below (bU BK376.out) hb) (aE (bs hb))); clear BK375 BK376 HB; obtain ⟨BK375, BK376, HB⟩ := n_; obtain ⟨hcz9_0, hcz9_1, hcz9_2, hfz9_0, hfz9_1, hfz9_2⟩ := cz3f BK375.out)))
  go_loopg [6, 7, 8, 9, 10] k (fun kq v6 v7 v8 v9 v10 w' => ∃ (x6_1 : Int) (x7_1 : Int) (x8_1 : Int) (x9_1 : Int) (x10_1 : Int), v6 = .int .i64 x6_1 ∧ v7 = .int .i64 x7_1 ∧ v8 = .int .i64 x8_1 ∧ v9 = .int .i64 x9_1 ∧ v10 = .int .i64 x10_1 ∧ Aside0 (incunableref05_Trim.l0 kq x6_1 x7_1 x8_1 x9_1 x10_1 a0_0 a0_1 l0_2 = some (r1, r2, r3, r4, r5, r6)) ∧ Aside0 (kq ≤ k) ∧ Aside0 (w'.heap[gb375]? = some (.cells #[.int .i64 a0_0, .int .i64 a0_1, (.slice A0_2 l0_2.length c0_2)] 24 (0, 0))) ∧ Aside0 (w'.heap[gb376]? = some (.cells #[.int .i64 0, .int .i64 0, (.slice none 0 0)] 24 (0, 0))) ∧ Aside0 (Below w.heap.size w w'))
  case atStart => exact ⟨(a0_0), (a0_1), ((-1)), ((-1)), (0), rq, rq, rq, rq, rq, H', ⟨Nat.le_refl _⟩, ⟨by exact bU BK375.out⟩, ⟨by exact bU BK376.out⟩, ⟨bl⟩⟩
  case round =>
   clear H'
   obtain ⟨x6_1, x7_1, x8_1, x9_1, x10_1, rfl, rfl, rfl, rfl, rfl, HA, HK1, BK375, BK376, HB⟩ := hrel
   cases gk with
   | zero => exact absurd HA.out (by simp [incunableref05_Trim.l0])
   | succ k1 =>
    have H := HA.out
    clear HA
    simp only [incunableref05_Trim.l0] at H
    rcases iL H with H1 | H1 <;> clear H <;> obtain ⟨H, c10b0⟩ := H1
    ·have H' := Aside0.mk H
     clear H
     have hnb11 := NB375_376.out
     have hnc11 := NB376_375.out
     obtain ⟨hcz12_0, hcz12_1, hcz12_2, hfz12_0, hfz12_1, hfz12_2⟩ := cz3f BK375.out
     go_wp2
     go_loopg [6, 7, 8, 9, 11] k1 (fun kq v6 v7 v8 v9 v11 w' => ∃ (x6_2 : Int) (x7_2 : Int) (x8_2 : Int) (x9_2 : Int) (x11_2 : Int), v6 = .int .i64 x6_2 ∧ v7 = .int .i64 x7_2 ∧ v8 = .int .i64 x8_2 ∧ v9 = .int .i64 x9_2 ∧ v11 = .int .i64 x11_2 ∧ Aside0 (incunableref05_Trim.l1 kq x6_2 x7_2 x8_2 x9_2 x10_1 x11_2 a0_0 a0_1 l0_2 = some (r1, r2, r3, r4, r5, r6)) ∧ Aside0 (kq ≤ k1) ∧ Aside0 (w'.heap[gb375]? = some (.cells #[.int .i64 a0_0, .int .i64 a0_1, (.slice A0_2 l0_2.length c0_2)] 24 (0, 0))) ∧ Aside0 (w'.heap[gb376]? = some (.cells #[.int .i64 0, .int .i64 0, (.slice none 0 0)] 24 (0, 0))) ∧ Aside0 (Below w.heap.size w w'))
     case atStart => exact ⟨(x6_1), (x7_1), (x8_1), (x9_1), (0), rq, rq, rq, rq, rq, H', ⟨Nat.le_refl _⟩, ⟨by exact bU BK375.out⟩, ⟨by exact bU BK376.out⟩, ⟨bl⟩⟩
     case round =>
      clear H'
      obtain ⟨x6_2, x7_2, x8_2, x9_2, x11_2, rfl, rfl, rfl, rfl, rfl, HA, HK2, BK375, BK376, HB⟩ := hrel
      cases gk with
      | zero => exact absurd HA.out (by simp [incunableref05_Trim.l1])
      | succ k2 =>
       have H := HA.out
       clear HA
       simp only [incunableref05_Trim.l1] at H
       rcases iL H with H1 | H1 <;> clear H <;> obtain ⟨H, c13b0⟩ := H1
       ·obtain ⟨t383, A14, H⟩ := oB H
        try dsimp only at H
        rcases iE H with H1 | H1 <;> clear H <;> obtain ⟨H, c15b0, c15b1, c15⟩ := H1
        ·obtain ⟨ji16, hji16⟩ : ∃ j_ : Int, (mn x6_2 x11_2) = j_ := ⟨_, rfl⟩
         replace H : (incunableref05_Trim.l1 k2 ji16 (mn x7_2 x10_1) (mx x8_2 x11_2) (mx x9_2 x10_1) x10_1 (wrap64 (x11_2 + 1)) a0_0 a0_1 l0_2) = some (r1, r2, r3, r4, r5, r6) := by first | (rw [hji16] at H; exact H) | (simp only [hji16] at H ⊢; exact H)
         (try rw [hji16] at A14)
         have hji16_ : (if x11_2 < x6_2 then x11_2 else x6_2) = ji16 := hji16
         obtain ⟨ji17, hji17⟩ : ∃ j_ : Int, (mn x7_2 x10_1) = j_ := ⟨_, rfl⟩
         replace H : (incunableref05_Trim.l1 k2 ji16 ji17 (mx x8_2 x11_2) (mx x9_2 x10_1) x10_1 (wrap64 (x11_2 + 1)) a0_0 a0_1 l0_2) = some (r1, r2, r3, r4, r5, r6) := by first | (rw [hji17] at H; exact H) | (simp only [hji17] at H ⊢; exact H)
         (try rw [hji17] at A14)
         have hji17_ : (if x10_1 < x7_2 then x10_1 else x7_2) = ji17 := hji17
         obtain ⟨ji18, hji18⟩ : ∃ j_ : Int, (mx x8_2 x11_2) = j_ := ⟨_, rfl⟩
         replace H : (incunableref05_Trim.l1 k2 ji16 ji17 ji18 (mx x9_2 x10_1) x10_1 (wrap64 (x11_2 + 1)) a0_0 a0_1 l0_2) = some (r1, r2, r3, r4, r5, r6) := by first | (rw [hji18] at H; exact H) | (simp only [hji18] at H ⊢; exact H)
         (try rw [hji18] at A14)
         have hji18_ : (if x8_2 < x11_2 then x11_2 else x8_2) = ji18 := hji18
         obtain ⟨ji19, hji19⟩ : ∃ j_ : Int, (mx x9_2 x10_1) = j_ := ⟨_, rfl⟩
         replace H : (incunableref05_Trim.l1 k2 ji16 ji17 ji18 ji19 x10_1 (wrap64 (x11_2 + 1)) a0_0 a0_1 l0_2) = some (r1, r2, r3, r4, r5, r6) := by first | (rw [hji19] at H; exact H) | (simp only [hji19] at H ⊢; exact H)
         (try rw [hji19] at A14)
         have hji19_ : (if x9_2 < x10_1 then x10_1 else x9_2) = ji19 := hji19
         have H' := Aside0.mk H
         clear H
         have hnb20 := NB375_376.out
         have hnc20 := NB376_375.out
         obtain ⟨hcz21_0, hcz21_1, hcz21_2, hfz21_0, hfz21_1, hfz21_2⟩ := cz3f BK375.out
         go_wp2_with (first | (go_at_call 34; (with_reducible refine (incunableref05_At.calls a0_0 a0_1 _ _ l0_2 x11_2 x10_1 t383 _ ?side1 ?side2 A14.out).mono ?_); (case side1 => exact cU (Kd.C_below HR0_2.out HB.out)); (case side2 => exact HC0_2.out); rintro e w22 ⟨rfl, hb⟩; have n_ := aC (blk_below (bU BK375.out) hb) (aC (blk_below (bU BK376.out) hb) (aE (bs hb))); clear BK375 BK376 HB; obtain ⟨BK375, BK376, HB⟩ := n_))
         go_roundg k2
         case measure => have := HK1.out; have := HK2.out; omega
         case rel => exact ⟨(ji16), (ji17), (ji18), (ji19), (wrap64 (x11_2 + 1)), (by first | rfl | (simp; done) | (simp only [← hji16] <;> (first | rfl | simp)) | (simp [*]; done)), (by first | rfl | (simp; done) | (simp only [← hji17] <;> (first | rfl | simp)) | (simp [*]; done)), (by first | rfl | (simp; done) | (simp only [← hji18] <;> (first | rfl | simp)) | (simp [*]; done)), (by first | rfl | (simp; done) | (simp only [← hji19] <;> (first | rfl | simp)) | (simp [*]; done)), rq, H', ⟨by have := HK1.out; have := HK2.out; omega⟩, ⟨by exact bU BK375.out⟩, ⟨by exact bU BK376.out⟩, ⟨bl⟩⟩
        ·have H' := Aside0.mk H
         clear H
         have hnb23 := NB375_376.out
         have hnc23 := NB376_375.out
         obtain ⟨hcz24_0, hcz24_1, hcz24_2, hfz24_0, hfz24_1, hfz24_2⟩ := cz3f BK375.out
         go_wp2_with (first | (go_at_call 34; (with_reducible refine (incunableref05_At.calls a0_0 a0_1 _ _ l0_2 x11_2 x10_1 t383 _ ?side1 ?side2 A14.out).mono ?_); (case side1 => exact cU (Kd.C_below HR0_2.out HB.out)); (case side2 => exact HC0_2.out); rintro e w25 ⟨rfl, hb⟩; have n_ := aC (blk_below (bU BK375.out) hb) (aC (blk_below (bU BK376.out) hb) (aE (bs hb))); clear BK375 BK376 HB; obtain ⟨BK375, BK376, HB⟩ := n_))
         go_roundg k2
         case measure => have := HK1.out; have := HK2.out; omega
         case rel => exact ⟨(x6_2), (x7_2), (x8_2), (x9_2), (wrap64 (x11_2 + 1)), rq, rq, rq, rq, rq, H', ⟨by have := HK1.out; have := HK2.out; omega⟩, ⟨by exact bU BK375.out⟩, ⟨by exact bU BK376.out⟩, ⟨bl⟩⟩
       ·have H' := Aside0.mk H
        clear H
        have hnb26 := NB375_376.out
        have hnc26 := NB376_375.out
        obtain ⟨hcz27_0, hcz27_1, hcz27_2, hfz27_0, hfz27_1, hfz27_2⟩ := cz3f BK375.out
        go_wp2
        go_roundg k2
        case measure => have := HK1.out; have := HK2.out; omega
        case rel => exact ⟨(x6_2), (x7_2), (x8_2), (x9_2), (wrap64 (x10_1 + 1)), rq, rq, rq, rq, rq, H', ⟨by have := HK1.out; have := HK2.out; omega⟩, ⟨by exact bU BK375.out⟩, ⟨by exact bU BK376.out⟩, ⟨bl⟩⟩
    ·rcases iL H with H1 | H1 <;> clear H <;> obtain ⟨H, c28b0⟩ := H1
     ·simp only [Option.some.injEq, Prod.mk.injEq] at H
      obtain ⟨rfl, rfl, rfl, rfl, rfl, rfl⟩ := H
      have hnb29 := NB375_376.out
      have hnc29 := NB376_375.out
      obtain ⟨hcz30_0, hcz30_1, hcz30_2, hfz30_0, hfz30_1, hfz30_2⟩ := cz3f BK375.out
      obtain ⟨hcz31_0, hcz31_1, hcz31_2, hfz31_0, hfz31_1, hfz31_2⟩ := cz3f BK376.out
      go_wp2
      refine bodyPost_ret (results_list (rs := [.cell 2 24, .tmp 3, .tmp 4, .tmp 5]) rfl (by simp) (.cell gb376 24 #[.int .i64 0, .int .i64 0, .slice none 0 0] (0, 0) _ rfl (by (with_reducible repeat (first | refine blk_drewN ?_ _ | refine blk_drew ?_ | refine blk_alloc ?_ _)); refine blk_put (cs := #[.int .i64 0, .int .i64 0, .slice none 0 0]) ?_ 2 _ rfl; (with_reducible repeat (first | refine blk_drewN ?_ _ | refine blk_drew ?_ | refine blk_alloc ?_ _)); refine blk_put (cs := #[.int .i64 0, .int .i64 0, .slice none 0 0]) ?_ 1 _ rfl; (with_reducible repeat (first | refine blk_drewN ?_ _ | refine blk_drew ?_ | refine blk_alloc ?_ _)); refine blk_put (cs := #[.int .i64 0, .int .i64 0, .slice none 0 0]) ?_ 0 _ rfl; exact bU BK376.out) Try.underlying24 rfl (by kernel_rfl) (.tmp (.tmp (.tmp .nil))))) rfl ?_
      exact ⟨_, re, by first | exact Kd.R_nil _ _ _ _ _ | exact Kd.N_nil _ _ _ _ _ | exact Kd.V_nil _ _ _ _ _ | exact Kd.Q_nil _ _ _ _ _ | exact Kd.S_nil _ _ _ _ _, bl⟩
     ·obtain ⟨⟨t378, t379, t380⟩, A32, H⟩ := oB H
      try dsimp only at H
      simp only [Option.some.injEq, Prod.mk.injEq] at H
      obtain ⟨rfl, rfl, rfl, rfl, rfl, rfl⟩ := H
      have hnb33 := NB375_376.out
      have hnc33 := NB376_375.out
      obtain ⟨hcz34_0, hcz34_1, hcz34_2, hfz34_0, hfz34_1, hfz34_2⟩ := cz3f BK375.out
      go_wp2_with (first | (go_at_call 35; (with_reducible refine (incunableref05_Part.calls k1 a0_0 a0_1 _ _ l0_2 x6_1 x7_1 (wrap64 ((wrap64 (x8_1 - x6_1)) + 1)) (wrap64 ((wrap64 (x9_1 - x7_1)) + 1)) t378 t379 t380 _ ?side1 ?side2 A32.out).mono ?_); (case side1 => exact cU (Kd.C_below HR0_2.out HB.out)); (case side2 => exact HC0_2.out); rintro e w35 ⟨v381, rfl, ho0, hb⟩; have n_ := aC (Kd.R_lower ho0 bz) (aC (blk_below (bU BK375.out) hb) (aC (blk_below (bU BK376.out) hb) (aE (bs hb)))); clear BK375 BK376 HB; obtain ⟨HO382, BK375, BK376, HB⟩ := n_; obtain ⟨hcz36_0, hcz36_1, hcz36_2, hfz36_0, hfz36_1, hfz36_2⟩ := cz3f BK376.out; obtain ⟨Ao37, co37, eo37⟩ := Kd.R_slice HO382.out; subst eo37))
      refine bodyPost_ret (results_list (rs := [.cell 2 24, .tmp 3, .tmp 4, .tmp 5]) rfl (by simp) (.cell gb376 24 #[.int .i64 t378, .int .i64 t379, .slice Ao37 t380.length co37] (0, 0) _ rfl (by (with_reducible repeat (first | refine blk_drewN ?_ _ | refine blk_drew ?_ | refine blk_alloc ?_ _)); refine blk_put (cs := #[.int .i64 t378, .int .i64 t379, .slice none 0 0]) ?_ 2 _ rfl; (with_reducible repeat (first | refine blk_drewN ?_ _ | refine blk_drew ?_ | refine blk_alloc ?_ _)); refine blk_put (cs := #[.int .i64 t378, .int .i64 0, .slice none 0 0]) ?_ 1 _ rfl; (with_reducible repeat (first | refine blk_drewN ?_ _ | refine blk_drew ?_ | refine blk_alloc ?_ _)); refine blk_put (cs := #[.int .i64 0, .int .i64 0, .slice none 0 0]) ?_ 0 _ rfl; exact bU BK376.out) Try.underlying24 rfl (by kernel_rfl) (.tmp (.tmp (.tmp .nil))))) rfl ?_
      exact ⟨_, re, rU (Kd.R_mono (Kd.R_far (p := ⟨gb376, 2, none⟩) (Kd.R_far (p := ⟨gb376, 1, none⟩) (Kd.R_far (p := ⟨gb376, 0, none⟩) (Kd.R_types HO382.out BK376.out (by decide)) (fun _ hk => hk.2) (.int .i64 t378)) (fun _ hk => hk.2) (.int .i64 t379)) (fun _ hk => hk.2) (.slice Ao37 t380.length co37)) (fun _ hk => trivial)), bl⟩
 ·replace c3 := Bool.eq_false_iff.mpr c3
  subst c3
  rw [if_neg Bool.false_ne_true] at H
  simp only [Option.some.injEq, Prod.mk.injEq] at H
  obtain ⟨rfl, rfl, rfl, rfl, rfl, rfl⟩ := H
  go_enter Try.func21, Try.ntmps21
  go_wp2_with (first | ((with_reducible refine gd 1 rfl ?_); refine bx 1 #[.int .i64 a0_0, .int .i64 a0_1, .slice A0_2 l0_2.length c0_2] 24 rfl rfl ?_; intro gb375 hg w38 hbox hb; have n_ := aC (bs hb) (aC hbox (aC (gz hg) (aE (gz hg)))); clear HB; obtain ⟨HB, BK375, GW375, GE375⟩ := n_; clear hb hbox hg) | ((with_reducible refine gd 2 rfl ?_); refine bx 2 #[.int .i64 0, .int .i64 0, .slice none 0 0] 24 rfl rfl ?_; intro gb376 hg w39 hbox hb; have n_ := aC (blk_below (bU BK375.out) hb) (aC (bs hb) (aC hbox (aC (gz hg) (aC (gz hg) (aC (gn hg (bU BK375.out)) (aE (gm hg (bU BK375.out)))))))); clear BK375 HB; obtain ⟨BK375, HB, BK376, GW376, GE376, NB375_376, NB376_375⟩ := n_; clear hb hbox hg; have hnb40 := NB375_376.out; have hnc40 := NB376_375.out; obtain ⟨hcz41_0, hcz41_1, hcz41_2, hfz41_0, hfz41_1, hfz41_2⟩ := cz3f BK375.out) | (go_at_call 18; (with_reducible refine (incunableref05_Valid.calls k a0_0 a0_1 _ _ l0_2 false _ ?side1 ?side2 A2.out).mono ?_); (case side1 => exact cU (Kd.C_below HR0_2.out HB.out)); (case side2 => exact HC0_2.out); rintro e w42 ⟨rfl, hb⟩; have n_ := aC (blk_below (bU BK375.out) hb) (aC (blk_below (bU BK376.out) hb) (aE (bs hb))); clear BK375 BK376 HB; obtain ⟨BK375, BK376, HB⟩ := n_; obtain ⟨hcz43_0, hcz43_1, hcz43_2, hfz43_0, hfz43_1, hfz43_2⟩ := cz3f BK376.out))
  refine bodyPost_ret (results_list (rs := [.cell 2 24, .tmp 3, .tmp 4, .tmp 5]) rfl (by simp) (.cell gb376 24 #[.int .i64 0, .int .i64 0, .slice none 0 0] (0, 0) _ rfl (by (with_reducible repeat (first | refine blk_drewN ?_ _ | refine blk_drew ?_ | refine blk_alloc ?_ _)); refine blk_put (cs := #[.int .i64 0, .int .i64 0, .slice none 0 0]) ?_ 2 _ rfl; (with_reducible repeat (first | refine blk_drewN ?_ _ | refine blk_drew ?_ | refine blk_alloc ?_ _)); refine blk_put (cs := #[.int .i64 0, .int .i64 0, .slice none 0 0]) ?_ 1 _ rfl; (with_reducible repeat (first | refine blk_drewN ?_ _ | refine blk_drew ?_ | refine blk_alloc ?_ _)); refine blk_put (cs := #[.int .i64 0, .int .i64 0, .slice none 0 0]) ?_ 0 _ rfl; exact bU BK376.out) Try.underlying24 rfl (by kernel_rfl) (.tmp (.tmp (.tmp .nil))))) rfl ?_
  exact ⟨_, re, by first | exact Kd.R_nil _ _ _ _ _ | exact Kd.N_nil _ _ _ _ _ | exact Kd.V_nil _ _ _ _ _ | exact Kd.Q_nil _ _ _ _ _ | exact Kd.S_nil _ _ _ _ _, bl⟩
end Go.Proofs.Ytnnbfkmmjclhaaa.PScanSpecks
