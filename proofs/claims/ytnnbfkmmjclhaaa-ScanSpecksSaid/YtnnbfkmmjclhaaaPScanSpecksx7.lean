-- printed (wip/tools/myprint.py)
import Derived.Test.YtnnbfkmmjclhaaaPScanSpecksx0
import Derived.Test.YtnnbfkmmjclhaaaPScanSpecksx2
import Derived.Test.YtnnbfkmmjclhaaaPScanSpecksx4
import Derived.Test.YtnnbfkmmjclhaaaPScanSpecksx5
import Derived.Test.YtnnbfkmmjclhaaaPScanSpecksx6
namespace Go.Proofs.Ytnnbfkmmjclhaaa.PScanSpecks
open Go.RowKit Go.Proofs.YtnnbfkmmjclhaaaW.PrintWords Go.Proofs.YtnnbfkmmjclhaaaW.PrintLast Go.Proofs.YtnnbfkmmjclhaaaW.PrintMore
attribute [local go_sem] max2_int min2_int max_two min_two max_three min_three max_four min_four
set_option linter.unusedVariables false
set_option linter.unusedSimpArgs false
mutual
def shape_Draw.j0 : Nat → List (S35) → Bool → Int → Int → List Int → Option (Int × Int × List Int × Int)
 | 0, _, _, _, _, _ => none
 | k + 1, x2, x24, x267000, x267001, x267002 => if x24 = true then (some (0, 0, ([] : List Int), 30)) else (shape_Draw.l0 k x2 (x2.length : Int) 0 x267000 x267001 x267002)
def shape_Draw.l0 : Nat → List (S35) → Int → Int → Int → Int → List Int → Option (Int × Int × List Int × Int)
 | 0, _, _, _, _, _, _ => none
 | k + 1, x26, x27, x28, x267000, x267001, x267002 => if x28 < x27 then (if 0 ≤ x28 then (if x28 < (x26.length : Int) then ((shape_near.f ((rd_T35 x26 x28).f1)).bind fun t270 => (if t270 = true then ((shape_near.f ((rd_T35 x26 x28).f2)).bind fun t271 => (if t271 = true then ((bitmap_Draw.f k x267000 x267001 x267002 ((rd_T35 x26 x28).f0.f0) ((rd_T35 x26 x28).f0.f1) ((rd_T35 x26 x28).f0.f2) ((rd_T35 x26 x28).f1) ((rd_T35 x26 x28).f2) 1).bind fun bt272 => (shape_Draw.l0 k x26 x27 (wrap64 (x28 + 1)) bt272.1 bt272.2.1 bt272.2.2.1)) else (some (0, 0, ([] : List Int), 2)))) else (some (0, 0, ([] : List Int), 2)))) else (none)) else (none)) else (some (x267000, x267001, x267002, 0))
end
def shape_Draw.f (k : Nat) (a0 : Int) (a1 : Int) (l2 : List (S35)) : Option (Int × Int × List Int × Int) := (bitmap_New.f k a0 a1 0).bind fun bt260 => (if bt260.2.2.2 = 0 then ((shape_rightPlaced.f k l2).bind fun t267 => (shape_Draw.j0 k l2 (!t267) bt260.1 bt260.2.1 bt260.2.2.1)) else (shape_Draw.j0 k l2 true bt260.1 bt260.2.1 bt260.2.2.1))
theorem shape_Draw.mono_l : ∀ k, (∀ y0 y1 y2 y3 y4, LeO (shape_Draw.j0 k y0 y1 y2 y3 y4) (shape_Draw.j0 (k + 1) y0 y1 y2 y3 y4)) ∧ (∀ y0 y1 y2 y3 y4 y5, LeO (shape_Draw.l0 k y0 y1 y2 y3 y4 y5) (shape_Draw.l0 (k + 1) y0 y1 y2 y3 y4 y5))
 | 0 => ⟨fun _ _ _ _ _ r h => by simp [shape_Draw.j0] at h, fun _ _ _ _ _ _ r h => by simp [shape_Draw.l0] at h⟩
 | k + 1 => by
  obtain ⟨ih0, ih1⟩ := shape_Draw.mono_l k
  refine ⟨?_, ?_⟩
  ·intro y0 y1 y2 y3 y4
   unfold shape_Draw.j0
   repeat' first
   | (with_reducible exact ih0 _ _ _ _ _)
   | (with_reducible exact ih1 _ _ _ _ _ _)
   | (with_reducible exact bitmap_Draw.mono _ _ _ _ _ _ _ _ _ _)
   | (with_reducible exact bitmap_New.mono _ _ _ _)
   | (with_reducible exact shape_rightPlaced.mono _ _)
   | (with_reducible first | exact LeO.refl _ | exact LeO.none _ | refine LeO.ite ?_ ?_ | refine LeO.bind ?_ (fun _ => ?_))
  ·intro y0 y1 y2 y3 y4 y5
   unfold shape_Draw.l0
   repeat' first
   | (with_reducible exact ih0 _ _ _ _ _)
   | (with_reducible exact ih1 _ _ _ _ _ _)
   | (with_reducible exact bitmap_Draw.mono _ _ _ _ _ _ _ _ _ _)
   | (with_reducible exact bitmap_New.mono _ _ _ _)
   | (with_reducible exact shape_rightPlaced.mono _ _)
   | (with_reducible first | exact LeO.refl _ | exact LeO.none _ | refine LeO.ite ?_ ?_ | refine LeO.bind ?_ (fun _ => ?_))
theorem shape_Draw.mono : ∀ a0 a1 a2 k, LeO (shape_Draw.f k a0 a1 a2) (shape_Draw.f (k + 1) a0 a1 a2) := by
 intro a0 a1 a2 k
 obtain ⟨ih0, ih1⟩ := shape_Draw.mono_l k
 unfold shape_Draw.f
 repeat' first
   | (with_reducible exact ih0 _ _ _ _ _)
   | (with_reducible exact ih1 _ _ _ _ _ _)
   | (with_reducible exact bitmap_Draw.mono _ _ _ _ _ _ _ _ _ _)
   | (with_reducible exact bitmap_New.mono _ _ _ _)
   | (with_reducible exact shape_rightPlaced.mono _ _)
   | (with_reducible first | exact LeO.refl _ | exact LeO.none _ | refine LeO.ite ?_ ?_ | refine LeO.bind ?_ (fun _ => ?_))
set_option maxHeartbeats 8000000 in
set_option maxRecDepth 100000 in
theorem shape_Draw.calls (k : Nat) (a0 : Int) (a1 : Int) (A2 : Option Addr) (c2 : Nat) (l2 : List (S35)) (r1 : Int) (r2 : Int) (r3 : List Int) (r4 : Int) (w : World) (hr2 : Kd.C k35 w A2 l2.length l2) (hc2 : l2.length ≤ c2) (h : shape_Draw.f k a0 a1 l2 = some (r1, r2, r3, r4)) :
  Calls Try.prog 17 #[.int .i64 a0, .int .i64 a1, .slice A2 l2.length c2] w fun e w' => ∃ v2_ : Value, e = .returned (.tuple #[.agg #[.int .i64 r1, .int .i64 r2, v2_], .int .i64 r4]) ∧ Kd.R (Kd.int .u8) 5 w' w.heap.size (fun _ => True) v2_ r3 ∧ Below w.heap.size w w' := by
 have hu24 := Try.underlying24
 have hu35 := Try.underlying35
 have HR2 := Aside0.mk hr2
 have HC2 := Aside0.mk hc2
 clear hr2 hc2
 have HB := Aside0.mk (Below.refl w.heap.size w)
 have H := h
 unfold shape_Draw.f at H
 clear h
 obtain ⟨⟨t260, t261, t262, t265⟩, A4, H⟩ := oB H
 try dsimp only at H
 have HC5 := Aside0.mk H
 clear H
 go_enter Try.func17, Try.ntmps17
 go_upto_region 2 with (first | ((with_reducible refine gd 6 rfl ?_); refine bx 6 #[.int .i64 0, .int .i64 0, .slice none 0 0] 24 rfl rfl ?_; intro gb259 hg w6 hbox hb; have n_ := aC (bs hb) (aC hbox (aC (gz hg) (aE (gz hg)))); clear HB; obtain ⟨HB, BK259, GW259, GE259⟩ := n_; clear hb hbox hg) | ((with_reducible refine gf 28 rfl ?_); refine gL (some 15) rfl rfl Try.func28 rfl #[.int .i64 a0, .int .i64 a1, .int .i64 0] rfl ?_; (with_reducible refine (bitmap_New.calls k a0 a1 0 t260 t261 t262 t265 _ A4.out).mono ?_); rintro e w7 ⟨v263, rfl, ho0, hb⟩; refine ⟨_, rfl, ?_⟩; have n_ := aC (Kd.R_lower ho0 bz) (aC (blk_below (bU BK259.out) hb) (aE (bs hb))); clear BK259 HB; obtain ⟨HO264, BK259, HB⟩ := n_) | ((with_reducible refine gd 8 rfl ?_); refine bx 8 #[.int .i64 0, .int .i64 0, .slice none 0 0] 24 rfl rfl ?_; intro gb266 hg w8 hbox hb; have n_ := aC (Kd.R_below (rU HO264.out) hb) (aC (blk_below (bU BK259.out) hb) (aC (bs hb) (aC hbox (aC (gz hg) (aC (gz hg) (aC (gn hg (bU BK259.out)) (aE (gm hg (bU BK259.out))))))))); clear HO264 BK259 HB; obtain ⟨HO264, BK259, HB, BK266, GW266, GE266, NB259_266, NB266_259⟩ := n_; clear hb hbox hg; have hnb9 := NB266_259.out; have hnc9 := NB259_266.out; obtain ⟨hcz10_0, hcz10_1, hcz10_2, hfz10_0, hfz10_1, hfz10_2⟩ := cz3f BK266.out; obtain ⟨Ao11, co11, eo11⟩ := Kd.R_slice HO264.out; subst eo11))
 (try simp only [Act.put, List.setIfInBounds_toArray, List.set_cons_zero, List.set_cons_succ])
 go_cut [24] (fun v24 wc => ∃ (kq : Nat) (x24_4 : Bool), v24 = .bool x24_4 ∧ Aside0 (shape_Draw.j0 kq l2 x24_4 t260 t261 t262 = some (r1, r2, r3, r4)) ∧ Aside0 (kq ≤ k) ∧ Aside0 (Kd.R (Kd.int .u8) 5 wc w.heap.size (fun _ => True) (.slice Ao11 t262.length co11) t262) ∧ Aside0 (wc.heap[gb259]? = some (.cells #[.int .i64 0, .int .i64 0, (.slice none 0 0)] 24 (0, 0))) ∧ Aside0 (wc.heap[gb266]? = some (.cells #[.int .i64 t260, .int .i64 t261, (.slice Ao11 t262.length co11)] 24 (0, 0))) ∧ Aside0 (Below w.heap.size w wc))
 case first =>
  have H := HC5.out
  clear HC5
  rcases iE H with H1 | H1 <;> clear H <;> obtain ⟨H, c12b0, c12b1, c12⟩ := H1
  ·(first | rw [c12b0] | (simp only [i64_w, i32_w]; rw [c12b0]) | skip)
   obtain ⟨t267, A13, H⟩ := oB H
   try dsimp only at H
   have H' := Aside0.mk H
   clear H
   go_wp2_with (first | (go_at_call 29; (with_reducible refine (shape_rightPlaced.calls k _ _ l2 t267 _ ?side1 ?side2 A13.out).mono ?_); (case side1 => exact Kd.C_below HR2.out bl); (case side2 => exact HC2.out); rintro e w14 ⟨rfl, hb⟩; have n_ := aC (Kd.R_below (rU (Kd.R_mono (Kd.R_far (p := ⟨gb266, 2, none⟩) (Kd.R_far (p := ⟨gb266, 1, none⟩) (Kd.R_far (p := ⟨gb266, 0, none⟩) (Kd.R_types HO264.out BK266.out (by decide)) (fun _ hk => hk.2) (.int .i64 t260)) (fun _ hk => hk.2) (.int .i64 t261)) (fun _ hk => hk.2) (.slice Ao11 t262.length co11)) (fun _ h_ => h_.1))) hb) (aC (blk_below (g := gb259) (o := .cells #[.int .i64 0, .int .i64 0, .slice none 0 0] 24 (0, 0)) (by refine bF ?_ ?_; exact NB259_266.out; refine bF ?_ ?_; exact NB259_266.out; refine bF ?_ ?_; exact NB259_266.out; exact bU BK259.out) hb) (aC (blk_below (g := gb266) (o := .cells #[.int .i64 t260, .int .i64 t261, .slice Ao11 t262.length co11] 24 (0, 0)) (by (with_reducible repeat (first | refine blk_drewN ?_ _ | refine blk_drew ?_ | refine blk_alloc ?_ _)); refine blk_put (cs := #[.int .i64 t260, .int .i64 t261, .slice none 0 0]) ?_ 2 _ rfl; (with_reducible repeat (first | refine blk_drewN ?_ _ | refine blk_drew ?_ | refine blk_alloc ?_ _)); refine blk_put (cs := #[.int .i64 t260, .int .i64 0, .slice none 0 0]) ?_ 1 _ rfl; (with_reducible repeat (first | refine blk_drewN ?_ _ | refine blk_drew ?_ | refine blk_alloc ?_ _)); refine blk_put (cs := #[.int .i64 0, .int .i64 0, .slice none 0 0]) ?_ 0 _ rfl; exact bU BK266.out) hb) (aE (bs hb)))); clear HO264 BK259 BK266 HB; obtain ⟨HO264, BK259, BK266, HB⟩ := n_))
   go_meet
   case rel => exact ⟨_, (!t267), rq, H', ⟨by first | omega | exact Nat.le_refl _⟩, ⟨rU HO264.out⟩, ⟨by exact bU BK259.out⟩, ⟨by exact bU BK266.out⟩, ⟨bl⟩⟩
  ·(first | rw [c12b0] | (simp only [i64_w, i32_w]; rw [c12b0]) | skip)
   have H' := Aside0.mk H
   clear H
   go_wp2
   go_meet
   case rel => exact ⟨_, (true), rq, H', ⟨by first | omega | exact Nat.le_refl _⟩, ⟨rU (Kd.R_mono (Kd.R_far (p := ⟨gb266, 2, none⟩) (Kd.R_far (p := ⟨gb266, 1, none⟩) (Kd.R_far (p := ⟨gb266, 0, none⟩) (Kd.R_types HO264.out BK266.out (by decide)) (fun _ hk => hk.2) (.int .i64 t260)) (fun _ hk => hk.2) (.int .i64 t261)) (fun _ hk => hk.2) (.slice Ao11 t262.length co11)) (fun _ hk => trivial))⟩, ⟨by refine bF ?_ ?_; exact NB259_266.out; refine bF ?_ ?_; exact NB259_266.out; refine bF ?_ ?_; exact NB259_266.out; exact bU BK259.out⟩, ⟨by (with_reducible repeat (first | refine blk_drewN ?_ _ | refine blk_drew ?_ | refine blk_alloc ?_ _)); refine blk_put (cs := #[.int .i64 t260, .int .i64 t261, .slice none 0 0]) ?_ 2 _ rfl; (with_reducible repeat (first | refine blk_drewN ?_ _ | refine blk_drew ?_ | refine blk_alloc ?_ _)); refine blk_put (cs := #[.int .i64 t260, .int .i64 0, .slice none 0 0]) ?_ 1 _ rfl; (with_reducible repeat (first | refine blk_drewN ?_ _ | refine blk_drew ?_ | refine blk_alloc ?_ _)); refine blk_put (cs := #[.int .i64 0, .int .i64 0, .slice none 0 0]) ?_ 0 _ rfl; exact bU BK266.out⟩, ⟨bl⟩⟩
 case rest =>
  clear HC5
  try clear c2
  obtain ⟨kq, x24_4, rfl, HA, HJ4, HO_267002, BK259, BK266, HB⟩ := hcut
  cases kq with
  | zero => exact absurd HA.out (by simp [shape_Draw.j0])
  | succ kj4 =>
   have H := HA.out
   clear HA
   simp only [shape_Draw.j0] at H
   by_cases c15 : x24_4 = true
   ·subst c15
    rw [if_pos rfl] at H
    simp only [Option.some.injEq, Prod.mk.injEq] at H
    obtain ⟨rfl, rfl, rfl, rfl⟩ := H
    have hnb16 := NB259_266.out
    have hnc16 := NB266_259.out
    obtain ⟨hcz17_0, hcz17_1, hcz17_2, hfz17_0, hfz17_1, hfz17_2⟩ := cz3f BK259.out
    go_wp2
    refine bodyPost_ret (results_ct rfl _ _ gb259 24 #[.int .i64 0, .int .i64 0, .slice none 0 0] (0, 0) _ rfl (by (with_reducible repeat (first | refine blk_drewN ?_ _ | refine blk_drew ?_ | refine blk_alloc ?_ _)); refine blk_put (cs := #[.int .i64 0, .int .i64 0, .slice none 0 0]) ?_ 2 _ rfl; (with_reducible repeat (first | refine blk_drewN ?_ _ | refine blk_drew ?_ | refine blk_alloc ?_ _)); refine blk_put (cs := #[.int .i64 0, .int .i64 0, .slice none 0 0]) ?_ 1 _ rfl; (with_reducible repeat (first | refine blk_drewN ?_ _ | refine blk_drew ?_ | refine blk_alloc ?_ _)); refine blk_put (cs := #[.int .i64 0, .int .i64 0, .slice none 0 0]) ?_ 0 _ rfl; exact bU BK259.out) Try.underlying24 rfl (by kernel_rfl)) rfl ?_
    exact ⟨_, re, by first | exact Kd.R_nil _ _ _ _ _ | exact Kd.N_nil _ _ _ _ _ | exact Kd.V_nil _ _ _ _ _ | exact Kd.Q_nil _ _ _ _ _ | exact Kd.S_nil _ _ _ _ _, bl⟩
   ·replace c15 := Bool.eq_false_iff.mpr c15
    subst c15
    rw [if_neg Bool.false_ne_true] at H
    have H' := Aside0.mk H
    clear H
    go_wp2
    go_loopg [28] kj4 (fun kq v28 w' => ∃ (x28_2 : Int) (x260000_2 : Int) (x260001_2 : Int) (x267000_2 : Int) (x267001_2 : Int) (x267002_2 : List Int) (u267002 : Value), v28 = .int .i64 x28_2 ∧ Aside0 (shape_Draw.l0 kq l2 (l2.length : Int) x28_2 x267000_2 x267001_2 x267002_2 = some (r1, r2, r3, r4)) ∧ Aside0 (kq ≤ kj4) ∧ Aside0 (Kd.R (Kd.int .u8) 5 w' w.heap.size (fun _ => True) u267002 x267002_2) ∧ Aside0 (w'.heap[gb259]? = some (.cells #[.int .i64 x260000_2, .int .i64 x260001_2, (.slice none 0 0)] 24 (0, 0))) ∧ Aside0 (w'.heap[gb266]? = some (.cells #[.int .i64 x267000_2, .int .i64 x267001_2, u267002] 24 (0, 0))) ∧ Aside0 (Below w.heap.size w w'))
    case atStart => exact ⟨(0), (0), (0), (t260), (t261), (t262), (.slice Ao11 t262.length co11), rq, H', ⟨Nat.le_refl _⟩, ⟨rU HO_267002.out⟩, ⟨by exact bU BK259.out⟩, ⟨by exact bU BK266.out⟩, ⟨bl⟩⟩
    case round =>
     clear H'
     try clear c2
     obtain ⟨x28_2, x260000_2, x260001_2, x267000_2, x267001_2, x267002_2, u267002, rfl, HA, HK2, HO_267002, BK259, BK266, HB⟩ := hrel
     cases gk with
     | zero => exact absurd HA.out (by simp [shape_Draw.l0])
     | succ k2 =>
      have H := HA.out
      clear HA
      simp only [shape_Draw.l0] at H
      rcases iL H with H1 | H1 <;> clear H <;> obtain ⟨H, c18b0⟩ := H1
      ·by_cases c19 : 0 ≤ x28_2
       ·rw [if_pos c19] at H
        have c19b0 := decide_eq_true c19
        clear c19
        by_cases c20 : x28_2 < (l2.length : Int)
        ·rw [if_pos c20] at H
         have c20b0 := decide_eq_true c20
         clear c20
         obtain ⟨t270, A21, H⟩ := oB H
         try dsimp only at H
         by_cases c22 : t270 = true
         ·subst c22
          rw [if_pos rfl] at H
          obtain ⟨t271, A23, H⟩ := oB H
          try dsimp only at H
          by_cases c24 : t271 = true
          ·subst c24
           rw [if_pos rfl] at H
           obtain ⟨⟨t272, t273, t274, t277⟩, A25, H⟩ := oB H
           try dsimp only at H
           have H' := Aside0.mk H
           clear H
           have p268 : 0 ≤ (x28_2 : Int) := dt
           have q268 : x28_2 < (l2.length : Int) := dt
           obtain ⟨ad268, A268_2, c268_2, e268, hx268_0, hx268_1, hx268_2, hx268_3, hx268_4, hl268_2, hi268_2⟩ := at_T35 HR2.out x28_2 p268 q268
           cases e268
           replace hx268_0 := hcB HB.out hx268_0
           replace hx268_1 := hcB HB.out hx268_1
           replace hx268_2 := hcB HB.out hx268_2
           replace hx268_3 := hcB HB.out hx268_3
           replace hx268_4 := hcB HB.out hx268_4
           have HR268_2 := Aside0.mk hi268_2
           have HC268_2 := Aside0.mk hl268_2
           clear hi268_2 hl268_2
           replace p268 := eq_true p268
           replace q268 := eq_true q268
           go_wp2_with (first | ((with_reducible refine gd 11 rfl ?_); refine bx 11 #[.int .i64 0, .int .i64 0, .slice none 0 0, .int .i64 0, .int .i64 0] 35 rfl rfl ?_; intro gb269 hg w26 hbox hb; have n_ := aC (Kd.R_below (rU HO_267002.out) hb) (aC (blk_below (bU BK259.out) hb) (aC (blk_below (bU BK266.out) hb) (aC (bs hb) (aC hbox (aC (gz hg) (aC (gz hg) (aC (gn hg (bU BK259.out)) (aC (gm hg (bU BK259.out)) (aC (gn hg (bU BK266.out)) (aE (gm hg (bU BK266.out)))))))))))); clear HO_267002 BK259 BK266 HB; obtain ⟨HO_267002, BK259, BK266, HB, BK269, GW269, GE269, NB259_269, NB269_259, NB266_269, NB269_266⟩ := n_; clear hb hbox hg; have hnb27 := NB269_259.out; have hnc27 := NB259_269.out; have hnb28 := NB269_266.out; have hnc28 := NB266_269.out; obtain ⟨hcz29_0, hcz29_1, hcz29_2, hcz29_3, hcz29_4, hfz29_0, hfz29_1, hfz29_2, hfz29_3, hfz29_4⟩ := cz5f BK269.out) | ((with_reducible refine gf 30 rfl ?_); refine gL (some 34) rfl rfl Try.func30 rfl #[.int .i64 ((rd_T35 l2 x28_2).f1)] rfl ?_; (with_reducible refine (shape_near.calls ((rd_T35 l2 x28_2).f1) true _ A21.out).mono ?_); rintro e w' ⟨rfl, ⟨nd, rfl⟩⟩; refine ⟨_, rfl, ?_⟩) | (go_at_call 30; (with_reducible refine (shape_near.calls ((rd_T35 l2 x28_2).f2) true _ A23.out).mono ?_); rintro e w' ⟨rfl, ⟨nd, rfl⟩⟩; have hnb30 := NB266_259.out; have hnc30 := NB259_266.out; obtain ⟨hcz31_0, hcz31_1, hcz31_2, hfz31_0, hfz31_1, hfz31_2⟩ := cz3f BK266.out; obtain ⟨Ao32, co32, eo32⟩ := Kd.R_slice HO_267002.out; subst eo32) | ((with_reducible refine gf 31 rfl ?_); refine gL (some 51) rfl rfl Try.func31 rfl #[.agg #[.int .i64 x267000_2, .int .i64 x267001_2, .slice Ao32 x267002_2.length co32], .agg #[.int .i64 ((rd_T35 l2 x28_2).f0.f0), .int .i64 ((rd_T35 l2 x28_2).f0.f1), .slice A268_2 ((rd_T35 l2 x28_2).f0.f2).length c268_2], .int .i64 ((rd_T35 l2 x28_2).f1), .int .i64 ((rd_T35 l2 x28_2).f2), .int .i64 1] rfl ?_; (with_reducible refine (bitmap_Draw.calls k2 x267000_2 x267001_2 _ _ x267002_2 ((rd_T35 l2 x28_2).f0.f0) ((rd_T35 l2 x28_2).f0.f1) _ _ ((rd_T35 l2 x28_2).f0.f2) ((rd_T35 l2 x28_2).f1) ((rd_T35 l2 x28_2).f2) 1 t272 t273 t274 t277 _ ?side1 ?side2 ?side3 ?side4 A25.out).mono ?_); (case side1 => refine (Kd.R_reads' (e := 5) (base := w.heap.size) (ok := fun k_ => True) (n := x267002_2.length) (c := co32) ?_).2.2; exact (rU (Kd.R_mono (Kd.R_far (p := ⟨gb269, 4, none⟩) (Kd.R_far (p := ⟨gb269, 3, none⟩) (Kd.R_far (p := ⟨gb269, 2, none⟩) (Kd.R_far (p := ⟨gb269, 1, none⟩) (Kd.R_far (p := ⟨gb269, 0, none⟩) (Kd.R_types HO_267002.out BK269.out (by decide)) (fun _ hk => hk.2) (.int .i64 ((rd_T35 l2 x28_2).f0.f0))) (fun _ hk => hk.2) (.int .i64 ((rd_T35 l2 x28_2).f0.f1))) (fun _ hk => hk.2) (.slice A268_2 ((rd_T35 l2 x28_2).f0.f2).length c268_2)) (fun _ hk => hk.2) (.int .i64 ((rd_T35 l2 x28_2).f1))) (fun _ hk => hk.2) (.int .i64 ((rd_T35 l2 x28_2).f2))) (fun _ h_ => h_.1)))); (case side2 => exact (Kd.R_reads' HO_267002.out).2.1); (case side3 => exact Kd.C_below HR268_2.out bl); (case side4 => exact HC268_2.out); rintro e w33 ⟨v275, rfl, ho0, hb⟩; refine ⟨_, rfl, ?_⟩; have n_ := aC (Kd.R_elder' (rU (Kd.R_mono (Kd.R_far (p := ⟨gb269, 4, none⟩) (Kd.R_far (p := ⟨gb269, 3, none⟩) (Kd.R_far (p := ⟨gb269, 2, none⟩) (Kd.R_far (p := ⟨gb269, 1, none⟩) (Kd.R_far (p := ⟨gb269, 0, none⟩) (Kd.R_types HO_267002.out BK269.out (by decide)) (fun _ hk => hk.2) (.int .i64 ((rd_T35 l2 x28_2).f0.f0))) (fun _ hk => hk.2) (.int .i64 ((rd_T35 l2 x28_2).f0.f1))) (fun _ hk => hk.2) (.slice A268_2 ((rd_T35 l2 x28_2).f0.f2).length c268_2)) (fun _ hk => hk.2) (.int .i64 ((rd_T35 l2 x28_2).f1))) (fun _ hk => hk.2) (.int .i64 ((rd_T35 l2 x28_2).f2))) (fun _ h_ => h_.1))) (Kd.R_base ho0) hb) (aC (Kd.R_lower (Kd.R_new' ho0 (Kd.R_lt (rU (Kd.R_mono (Kd.R_far (p := ⟨gb269, 4, none⟩) (Kd.R_far (p := ⟨gb269, 3, none⟩) (Kd.R_far (p := ⟨gb269, 2, none⟩) (Kd.R_far (p := ⟨gb269, 1, none⟩) (Kd.R_far (p := ⟨gb269, 0, none⟩) (Kd.R_types HO_267002.out BK269.out (by decide)) (fun _ hk => hk.2) (.int .i64 ((rd_T35 l2 x28_2).f0.f0))) (fun _ hk => hk.2) (.int .i64 ((rd_T35 l2 x28_2).f0.f1))) (fun _ hk => hk.2) (.slice A268_2 ((rd_T35 l2 x28_2).f0.f2).length c268_2)) (fun _ hk => hk.2) (.int .i64 ((rd_T35 l2 x28_2).f1))) (fun _ hk => hk.2) (.int .i64 ((rd_T35 l2 x28_2).f2))) (fun _ h_ => h_.1))))) bz) (aC (blk_below (g := gb259) (o := .cells #[.int .i64 x260000_2, .int .i64 x260001_2, .slice none 0 0] 24 (0, 0)) (by refine bF ?_ ?_; exact NB259_269.out; refine bF ?_ ?_; exact NB259_269.out; refine bF ?_ ?_; exact NB259_269.out; refine bF ?_ ?_; exact NB259_269.out; refine bF ?_ ?_; exact NB259_269.out; exact bU BK259.out) hb) (aC (blk_below (g := gb266) (o := .cells #[.int .i64 x267000_2, .int .i64 x267001_2, .slice Ao32 x267002_2.length co32] 24 (0, 0)) (by refine bF ?_ ?_; exact NB266_269.out; refine bF ?_ ?_; exact NB266_269.out; refine bF ?_ ?_; exact NB266_269.out; refine bF ?_ ?_; exact NB266_269.out; refine bF ?_ ?_; exact NB266_269.out; exact bU BK266.out) hb) (aC (blk_below (g := gb269) (o := .cells #[.int .i64 ((rd_T35 l2 x28_2).f0.f0), .int .i64 ((rd_T35 l2 x28_2).f0.f1), .slice A268_2 ((rd_T35 l2 x28_2).f0.f2).length c268_2, .int .i64 ((rd_T35 l2 x28_2).f1), .int .i64 ((rd_T35 l2 x28_2).f2)] 35 (0, 0)) (by (with_reducible repeat (first | refine blk_drewN ?_ _ | refine blk_drew ?_ | refine blk_alloc ?_ _)); refine blk_put (cs := #[.int .i64 ((rd_T35 l2 x28_2).f0.f0), .int .i64 ((rd_T35 l2 x28_2).f0.f1), .slice A268_2 ((rd_T35 l2 x28_2).f0.f2).length c268_2, .int .i64 ((rd_T35 l2 x28_2).f1), .int .i64 0]) ?_ 4 _ rfl; (with_reducible repeat (first | refine blk_drewN ?_ _ | refine blk_drew ?_ | refine blk_alloc ?_ _)); refine blk_put (cs := #[.int .i64 ((rd_T35 l2 x28_2).f0.f0), .int .i64 ((rd_T35 l2 x28_2).f0.f1), .slice A268_2 ((rd_T35 l2 x28_2).f0.f2).length c268_2, .int .i64 0, .int .i64 0]) ?_ 3 _ rfl; (with_reducible repeat (first | refine blk_drewN ?_ _ | refine blk_drew ?_ | refine blk_alloc ?_ _)); refine blk_put (cs := #[.int .i64 ((rd_T35 l2 x28_2).f0.f0), .int .i64 ((rd_T35 l2 x28_2).f0.f1), .slice none 0 0, .int .i64 0, .int .i64 0]) ?_ 2 _ rfl; (with_reducible repeat (first | refine blk_drewN ?_ _ | refine blk_drew ?_ | refine blk_alloc ?_ _)); refine blk_put (cs := #[.int .i64 ((rd_T35 l2 x28_2).f0.f0), .int .i64 0, .slice none 0 0, .int .i64 0, .int .i64 0]) ?_ 1 _ rfl; (with_reducible repeat (first | refine blk_drewN ?_ _ | refine blk_drew ?_ | refine blk_alloc ?_ _)); refine blk_put (cs := #[.int .i64 0, .int .i64 0, .slice none 0 0, .int .i64 0, .int .i64 0]) ?_ 0 _ rfl; exact bU BK269.out) hb) (aE (bs hb)))))); clear HO_267002 BK259 BK266 BK269 HB; obtain ⟨HO_267002, HO276, BK259, BK266, BK269, HB⟩ := n_; obtain ⟨hcz34_0, hcz34_1, hcz34_2, hfz34_0, hfz34_1, hfz34_2⟩ := cz3f BK266.out; obtain ⟨Ao35, co35, eo35⟩ := Kd.R_slice HO276.out; subst eo35))
           go_roundg k2
           case measure => have := HJ4.out; have := HK2.out; omega
           case rel => exact ⟨(wrap64 (x28_2 + 1)), (x260000_2), (x260001_2), (t272), (t273), (t274), (.slice Ao35 t274.length co35), rq, H', ⟨by have := HJ4.out; have := HK2.out; omega⟩, ⟨rU (Kd.R_mono (Kd.R_far (p := ⟨gb266, 2, none⟩) (Kd.R_far (p := ⟨gb266, 1, none⟩) (Kd.R_far (p := ⟨gb266, 0, none⟩) (Kd.R_types HO276.out BK266.out (by decide)) (fun _ hk => hk.2) (.int .i64 t272)) (fun _ hk => hk.2) (.int .i64 t273)) (fun _ hk => hk.2) (.slice Ao35 t274.length co35)) (fun _ hk => trivial))⟩, ⟨by refine bF ?_ ?_; exact NB259_266.out; refine bF ?_ ?_; exact NB259_266.out; refine bF ?_ ?_; exact NB259_266.out; exact bU BK259.out⟩, ⟨by (with_reducible repeat (first | refine blk_drewN ?_ _ | refine blk_drew ?_ | refine blk_alloc ?_ _)); refine blk_put (cs := #[.int .i64 t272, .int .i64 t273, .slice Ao32 x267002_2.length co32]) ?_ 2 _ rfl; (with_reducible repeat (first | refine blk_drewN ?_ _ | refine blk_drew ?_ | refine blk_alloc ?_ _)); refine blk_put (cs := #[.int .i64 t272, .int .i64 x267001_2, .slice Ao32 x267002_2.length co32]) ?_ 1 _ rfl; (with_reducible repeat (first | refine blk_drewN ?_ _ | refine blk_drew ?_ | refine blk_alloc ?_ _)); refine blk_put (cs := #[.int .i64 x267000_2, .int .i64 x267001_2, .slice Ao32 x267002_2.length co32]) ?_ 0 _ rfl; exact bU BK266.out⟩, ⟨bl⟩⟩
          ·replace c24 := Bool.eq_false_iff.mpr c24
           subst c24
           rw [if_neg Bool.false_ne_true] at H
           simp only [Option.some.injEq, Prod.mk.injEq] at H
           obtain ⟨rfl, rfl, rfl, rfl⟩ := H
           have p268 : 0 ≤ (x28_2 : Int) := dt
           have q268 : x28_2 < (l2.length : Int) := dt
           obtain ⟨ad268, A268_2, c268_2, e268, hx268_0, hx268_1, hx268_2, hx268_3, hx268_4, hl268_2, hi268_2⟩ := at_T35 HR2.out x28_2 p268 q268
           cases e268
           replace hx268_0 := hcB HB.out hx268_0
           replace hx268_1 := hcB HB.out hx268_1
           replace hx268_2 := hcB HB.out hx268_2
           replace hx268_3 := hcB HB.out hx268_3
           replace hx268_4 := hcB HB.out hx268_4
           have HR268_2 := Aside0.mk hi268_2
           have HC268_2 := Aside0.mk hl268_2
           clear hi268_2 hl268_2
           replace p268 := eq_true p268
           replace q268 := eq_true q268
           go_wp2_with (first | ((with_reducible refine gd 11 rfl ?_); refine bx 11 #[.int .i64 0, .int .i64 0, .slice none 0 0, .int .i64 0, .int .i64 0] 35 rfl rfl ?_; intro gb269 hg w36 hbox hb; have n_ := aC (Kd.R_below (rU HO_267002.out) hb) (aC (blk_below (bU BK259.out) hb) (aC (blk_below (bU BK266.out) hb) (aC (bs hb) (aC hbox (aC (gz hg) (aC (gz hg) (aC (gn hg (bU BK259.out)) (aC (gm hg (bU BK259.out)) (aC (gn hg (bU BK266.out)) (aE (gm hg (bU BK266.out)))))))))))); clear HO_267002 BK259 BK266 HB; obtain ⟨HO_267002, BK259, BK266, HB, BK269, GW269, GE269, NB259_269, NB269_259, NB266_269, NB269_266⟩ := n_; clear hb hbox hg; have hnb37 := NB269_259.out; have hnc37 := NB259_269.out; have hnb38 := NB269_266.out; have hnc38 := NB266_269.out; obtain ⟨hcz39_0, hcz39_1, hcz39_2, hcz39_3, hcz39_4, hfz39_0, hfz39_1, hfz39_2, hfz39_3, hfz39_4⟩ := cz5f BK269.out) | ((with_reducible refine gf 30 rfl ?_); refine gL (some 34) rfl rfl Try.func30 rfl #[.int .i64 ((rd_T35 l2 x28_2).f1)] rfl ?_; (with_reducible refine (shape_near.calls ((rd_T35 l2 x28_2).f1) true _ A21.out).mono ?_); rintro e w' ⟨rfl, ⟨nd, rfl⟩⟩; refine ⟨_, rfl, ?_⟩) | (go_at_call 30; (with_reducible refine (shape_near.calls ((rd_T35 l2 x28_2).f2) false _ A23.out).mono ?_); rintro e w' ⟨rfl, ⟨nd, rfl⟩⟩; have hnb40 := NB259_266.out; have hnc40 := NB266_259.out; obtain ⟨hcz41_0, hcz41_1, hcz41_2, hfz41_0, hfz41_1, hfz41_2⟩ := cz3f BK259.out))
           refine bodyPost_ret (results_ct rfl _ _ gb259 24 #[.int .i64 0, .int .i64 0, .slice none 0 0] (0, 0) _ rfl (by (with_reducible repeat (first | refine blk_drewN ?_ _ | refine blk_drew ?_ | refine blk_alloc ?_ _)); refine blk_put (cs := #[.int .i64 0, .int .i64 0, .slice none 0 0]) ?_ 2 _ rfl; (with_reducible repeat (first | refine blk_drewN ?_ _ | refine blk_drew ?_ | refine blk_alloc ?_ _)); refine blk_put (cs := #[.int .i64 0, .int .i64 x260001_2, .slice none 0 0]) ?_ 1 _ rfl; (with_reducible repeat (first | refine blk_drewN ?_ _ | refine blk_drew ?_ | refine blk_alloc ?_ _)); refine blk_put (cs := #[.int .i64 x260000_2, .int .i64 x260001_2, .slice none 0 0]) ?_ 0 _ rfl; refine bF ?_ ?_; exact NB259_269.out; refine bF ?_ ?_; exact NB259_269.out; refine bF ?_ ?_; exact NB259_269.out; refine bF ?_ ?_; exact NB259_269.out; refine bF ?_ ?_; exact NB259_269.out; exact bU BK259.out) Try.underlying24 rfl (by kernel_rfl)) rfl ?_
           exact ⟨_, re, by first | exact Kd.R_nil _ _ _ _ _ | exact Kd.N_nil _ _ _ _ _ | exact Kd.V_nil _ _ _ _ _ | exact Kd.Q_nil _ _ _ _ _ | exact Kd.S_nil _ _ _ _ _, bl⟩
         ·replace c22 := Bool.eq_false_iff.mpr c22
          subst c22
          rw [if_neg Bool.false_ne_true] at H
          simp only [Option.some.injEq, Prod.mk.injEq] at H
          obtain ⟨rfl, rfl, rfl, rfl⟩ := H
          have p268 : 0 ≤ (x28_2 : Int) := dt
          have q268 : x28_2 < (l2.length : Int) := dt
          obtain ⟨ad268, A268_2, c268_2, e268, hx268_0, hx268_1, hx268_2, hx268_3, hx268_4, hl268_2, hi268_2⟩ := at_T35 HR2.out x28_2 p268 q268
          cases e268
          replace hx268_0 := hcB HB.out hx268_0
          replace hx268_1 := hcB HB.out hx268_1
          replace hx268_2 := hcB HB.out hx268_2
          replace hx268_3 := hcB HB.out hx268_3
          replace hx268_4 := hcB HB.out hx268_4
          have HR268_2 := Aside0.mk hi268_2
          have HC268_2 := Aside0.mk hl268_2
          clear hi268_2 hl268_2
          replace p268 := eq_true p268
          replace q268 := eq_true q268
          go_wp2_with (first | ((with_reducible refine gd 11 rfl ?_); refine bx 11 #[.int .i64 0, .int .i64 0, .slice none 0 0, .int .i64 0, .int .i64 0] 35 rfl rfl ?_; intro gb269 hg w42 hbox hb; have n_ := aC (Kd.R_below (rU HO_267002.out) hb) (aC (blk_below (bU BK259.out) hb) (aC (blk_below (bU BK266.out) hb) (aC (bs hb) (aC hbox (aC (gz hg) (aC (gz hg) (aC (gn hg (bU BK259.out)) (aC (gm hg (bU BK259.out)) (aC (gn hg (bU BK266.out)) (aE (gm hg (bU BK266.out)))))))))))); clear HO_267002 BK259 BK266 HB; obtain ⟨HO_267002, BK259, BK266, HB, BK269, GW269, GE269, NB259_269, NB269_259, NB266_269, NB269_266⟩ := n_; clear hb hbox hg; have hnb43 := NB269_259.out; have hnc43 := NB259_269.out; have hnb44 := NB269_266.out; have hnc44 := NB266_269.out; obtain ⟨hcz45_0, hcz45_1, hcz45_2, hcz45_3, hcz45_4, hfz45_0, hfz45_1, hfz45_2, hfz45_3, hfz45_4⟩ := cz5f BK269.out) | ((with_reducible refine gf 30 rfl ?_); refine gL (some 34) rfl rfl Try.func30 rfl #[.int .i64 ((rd_T35 l2 x28_2).f1)] rfl ?_; (with_reducible refine (shape_near.calls ((rd_T35 l2 x28_2).f1) false _ A21.out).mono ?_); rintro e w' ⟨rfl, ⟨nd, rfl⟩⟩; refine ⟨_, rfl, ?_⟩; have hnb46 := NB259_266.out; have hnc46 := NB266_259.out; obtain ⟨hcz47_0, hcz47_1, hcz47_2, hfz47_0, hfz47_1, hfz47_2⟩ := cz3f BK259.out))
          refine bodyPost_ret (results_ct rfl _ _ gb259 24 #[.int .i64 0, .int .i64 0, .slice none 0 0] (0, 0) _ rfl (by (with_reducible repeat (first | refine blk_drewN ?_ _ | refine blk_drew ?_ | refine blk_alloc ?_ _)); refine blk_put (cs := #[.int .i64 0, .int .i64 0, .slice none 0 0]) ?_ 2 _ rfl; (with_reducible repeat (first | refine blk_drewN ?_ _ | refine blk_drew ?_ | refine blk_alloc ?_ _)); refine blk_put (cs := #[.int .i64 0, .int .i64 x260001_2, .slice none 0 0]) ?_ 1 _ rfl; (with_reducible repeat (first | refine blk_drewN ?_ _ | refine blk_drew ?_ | refine blk_alloc ?_ _)); refine blk_put (cs := #[.int .i64 x260000_2, .int .i64 x260001_2, .slice none 0 0]) ?_ 0 _ rfl; refine bF ?_ ?_; exact NB259_269.out; refine bF ?_ ?_; exact NB259_269.out; refine bF ?_ ?_; exact NB259_269.out; refine bF ?_ ?_; exact NB259_269.out; refine bF ?_ ?_; exact NB259_269.out; exact bU BK259.out) Try.underlying24 rfl (by kernel_rfl)) rfl ?_
          exact ⟨_, re, by first | exact Kd.R_nil _ _ _ _ _ | exact Kd.N_nil _ _ _ _ _ | exact Kd.V_nil _ _ _ _ _ | exact Kd.Q_nil _ _ _ _ _ | exact Kd.S_nil _ _ _ _ _, bl⟩
        ·rw [if_neg c20] at H
         exact absurd H (by simp)
       ·rw [if_neg c19] at H
        exact absurd H (by simp)
      ·simp only [Option.some.injEq, Prod.mk.injEq] at H
       obtain ⟨rfl, rfl, rfl, rfl⟩ := H
       have hnb48 := NB266_259.out
       have hnc48 := NB259_266.out
       obtain ⟨hcz49_0, hcz49_1, hcz49_2, hfz49_0, hfz49_1, hfz49_2⟩ := cz3f BK266.out
       obtain ⟨hcz50_0, hcz50_1, hcz50_2, hfz50_0, hfz50_1, hfz50_2⟩ := cz3f BK259.out
       obtain ⟨Ao51, co51, eo51⟩ := Kd.R_slice HO_267002.out
       subst eo51
       go_wp2
       refine bodyPost_ret (results_ct rfl _ _ gb259 24 #[.int .i64 x267000_2, .int .i64 x267001_2, .slice Ao51 x267002_2.length co51] (0, 0) _ rfl (by (with_reducible repeat (first | refine blk_drewN ?_ _ | refine blk_drew ?_ | refine blk_alloc ?_ _)); refine blk_put (cs := #[.int .i64 x267000_2, .int .i64 x267001_2, .slice none 0 0]) ?_ 2 _ rfl; (with_reducible repeat (first | refine blk_drewN ?_ _ | refine blk_drew ?_ | refine blk_alloc ?_ _)); refine blk_put (cs := #[.int .i64 x267000_2, .int .i64 x260001_2, .slice none 0 0]) ?_ 1 _ rfl; (with_reducible repeat (first | refine blk_drewN ?_ _ | refine blk_drew ?_ | refine blk_alloc ?_ _)); refine blk_put (cs := #[.int .i64 x260000_2, .int .i64 x260001_2, .slice none 0 0]) ?_ 0 _ rfl; exact bU BK259.out) Try.underlying24 rfl (by kernel_rfl)) rfl ?_
       exact ⟨_, re, rU (Kd.R_mono (Kd.R_far (p := ⟨gb259, 2, none⟩) (Kd.R_far (p := ⟨gb259, 1, none⟩) (Kd.R_far (p := ⟨gb259, 0, none⟩) (Kd.R_types HO_267002.out BK259.out (by decide)) (fun _ hk => hk.2) (.int .i64 x267000_2)) (fun _ hk => hk.2) (.int .i64 x267001_2)) (fun _ hk => hk.2) (.slice Ao51 x267002_2.length co51)) (fun _ hk => trivial)), bl⟩
def slices_IndexFunc_15.l0 : Nat → List (S35) → Int → Int → Int → Option (Int)
 | 0, _, _, _, _ => none
 | k + 1, x0, x7, x8, x279000 => if x8 < x7 then (if 0 ≤ x8 then (if x8 < (x0.length : Int) then ((scan_Despeckle_1.f k ((rd_T35 x0 x8).f0.f0) ((rd_T35 x0 x8).f0.f1) ((rd_T35 x0 x8).f0.f2) ((rd_T35 x0 x8).f1) ((rd_T35 x0 x8).f2) x279000).bind fun t280 => (if t280 = true then (some x8) else (slices_IndexFunc_15.l0 k x0 x7 (wrap64 (x8 + 1)) x279000))) else (none)) else (none)) else (some (-1))
def slices_IndexFunc_15.f (k : Nat) (l0 : List (S35)) (a1_0 : Int) : Option (Int) := slices_IndexFunc_15.l0 k l0 (l0.length : Int) 0 a1_0
theorem slices_IndexFunc_15.mono_l : ∀ k, (∀ y0 y1 y2 y3, LeO (slices_IndexFunc_15.l0 k y0 y1 y2 y3) (slices_IndexFunc_15.l0 (k + 1) y0 y1 y2 y3))
 | 0 => fun _ _ _ _ r h => by simp [slices_IndexFunc_15.l0] at h
 | k + 1 => by
  have ih0 := slices_IndexFunc_15.mono_l k
  ·intro y0 y1 y2 y3
   unfold slices_IndexFunc_15.l0
   repeat' first
   | (with_reducible exact ih0 _ _ _ _)
   | (with_reducible exact scan_Despeckle_1.mono _ _ _ _ _ _ _)
   | (with_reducible first | exact LeO.refl _ | exact LeO.none _ | refine LeO.ite ?_ ?_ | refine LeO.bind ?_ (fun _ => ?_))
theorem slices_IndexFunc_15.mono : ∀ a0 a1 k, LeO (slices_IndexFunc_15.f k a0 a1) (slices_IndexFunc_15.f (k + 1) a0 a1) := by
 intro a0 a1 k
 have ih0 := slices_IndexFunc_15.mono_l k
 unfold slices_IndexFunc_15.f
 repeat' first
   | (with_reducible exact ih0 _ _ _ _)
   | (with_reducible exact scan_Despeckle_1.mono _ _ _ _ _ _ _)
   | (with_reducible first | exact LeO.refl _ | exact LeO.none _ | refine LeO.ite ?_ ?_ | refine LeO.bind ?_ (fun _ => ?_))
set_option maxHeartbeats 8000000 in
set_option maxRecDepth 100000 in
theorem slices_IndexFunc_15.calls (k : Nat) (A0 : Option Addr) (c0 : Nat) (l0 : List (S35)) (b1_0 : Nat) (a1_0 : Int) (r : Int) (w : World) (hr0 : Kd.C k35 w A0 l0.length l0) (hc0 : l0.length ≤ c0) (hbx1_0 : w.heap[b1_0]? = some (.cells #[.int .i64 a1_0] 3 (0, 0))) (h : slices_IndexFunc_15.f k l0 a1_0 = some r) :
  Calls Try.prog 26 #[.slice A0 l0.length c0, .func (.func 15) #[] #[.pointer (some ⟨b1_0, 0, none⟩)]] w fun e w' => e = .returned (.int .i64 r) ∧ Below w.heap.size w w' := by
 have hu35 := Try.underlying35
 have HR0 := Aside0.mk hr0
 have HC0 := Aside0.mk hc0
 clear hr0 hc0
 have BK278 := Aside0.mk hbx1_0
 clear hbx1_0
 have HB := Aside0.mk (Below.refl w.heap.size w)
 have H : (slices_IndexFunc_15.l0 k l0 (l0.length : Int) 0 a1_0) = some r := h
 clear h
 have H' := Aside0.mk H
 clear H
 go_enter Try.func26, Try.ntmps26
 go_wp2
 go_loopg [8] k (fun kq v8 w' => ∃ (x8_1 : Int), v8 = .int .i64 x8_1 ∧ Aside0 (slices_IndexFunc_15.l0 kq l0 (l0.length : Int) x8_1 a1_0 = some r) ∧ Aside0 (kq ≤ k) ∧ Aside0 (w'.heap[b1_0]? = some (.cells #[.int .i64 a1_0] 3 (0, 0))) ∧ Aside0 (Below w.heap.size w w'))
 case atStart => exact ⟨(0), rq, H', ⟨Nat.le_refl _⟩, ⟨by exact bU BK278.out⟩, ⟨bl⟩⟩
 case round =>
  clear H'
  obtain ⟨x8_1, rfl, HA, HK1, BK278, HB⟩ := hrel
  cases gk with
  | zero => exact absurd HA.out (by simp [slices_IndexFunc_15.l0])
  | succ k1 =>
   have H := HA.out
   clear HA
   simp only [slices_IndexFunc_15.l0] at H
   rcases iL H with H1 | H1 <;> clear H <;> obtain ⟨H, c3b0⟩ := H1
   ·by_cases c4 : 0 ≤ x8_1
    ·rw [if_pos c4] at H
     have c4b0 := decide_eq_true c4
     clear c4
     by_cases c5 : x8_1 < (l0.length : Int)
     ·rw [if_pos c5] at H
      have c5b0 := decide_eq_true c5
      clear c5
      obtain ⟨t280, A6, H⟩ := oB H
      try dsimp only at H
      by_cases c7 : t280 = true
      ·subst c7
       rw [if_pos rfl] at H
       obtain rfl := Option.some.inj H
       have p279 : 0 ≤ (x8_1 : Int) := dt
       have q279 : x8_1 < (l0.length : Int) := dt
       obtain ⟨ad279, A279_2, c279_2, e279, hx279_0, hx279_1, hx279_2, hx279_3, hx279_4, hl279_2, hi279_2⟩ := at_T35 HR0.out x8_1 p279 q279
       cases e279
       replace hx279_0 := hcB HB.out hx279_0
       replace hx279_1 := hcB HB.out hx279_1
       replace hx279_2 := hcB HB.out hx279_2
       replace hx279_3 := hcB HB.out hx279_3
       replace hx279_4 := hcB HB.out hx279_4
       have HR279_2 := Aside0.mk hi279_2
       have HC279_2 := Aside0.mk hl279_2
       clear hi279_2 hl279_2
       replace p279 := eq_true p279
       replace q279 := eq_true q279
       go_wp2_with (first | ((with_reducible refine gate_value rfl ?_); refine goesV_ (some 16) rfl rfl Try.func15 (by kernel_rfl) rfl #[.agg #[.int .i64 ((rd_T35 l0 x8_1).f0.f0), .int .i64 ((rd_T35 l0 x8_1).f0.f1), .slice A279_2 ((rd_T35 l0 x8_1).f0.f2).length c279_2, .int .i64 ((rd_T35 l0 x8_1).f1), .int .i64 ((rd_T35 l0 x8_1).f2)], .pointer (some ⟨b1_0, 0, none⟩)] rfl rfl (by (try simp only [List.map_toArray, List.map_cons, List.map_nil]); first | done | rfl | (simp only [List.length_drop, List.length_take]; rfl)) ?_; (with_reducible refine (scan_Despeckle_1.calls k1 ((rd_T35 l0 x8_1).f0.f0) ((rd_T35 l0 x8_1).f0.f1) _ _ ((rd_T35 l0 x8_1).f0.f2) ((rd_T35 l0 x8_1).f1) ((rd_T35 l0 x8_1).f2) b1_0 a1_0 true _ ?side1 ?side2 ?side3 A6.out).mono ?_); (case side1 => exact cU (Kd.C_below HR279_2.out HB.out)); (case side2 => exact HC279_2.out); (case side3 => exact by exact bU BK278.out); rintro e w8 ⟨rfl, hb⟩; refine ⟨_, rfl, ?_⟩; have n_ := aC (blk_below (bU BK278.out) hb) (aE (bs hb)); clear BK278 HB; obtain ⟨BK278, HB⟩ := n_))
       go_ret
       exact ⟨re, bl⟩
      ·replace c7 := Bool.eq_false_iff.mpr c7
       subst c7
       rw [if_neg Bool.false_ne_true] at H
       have H' := Aside0.mk H
       clear H
       have p279 : 0 ≤ (x8_1 : Int) := dt
       have q279 : x8_1 < (l0.length : Int) := dt
       obtain ⟨ad279, A279_2, c279_2, e279, hx279_0, hx279_1, hx279_2, hx279_3, hx279_4, hl279_2, hi279_2⟩ := at_T35 HR0.out x8_1 p279 q279
       cases e279
       replace hx279_0 := hcB HB.out hx279_0
       replace hx279_1 := hcB HB.out hx279_1
       replace hx279_2 := hcB HB.out hx279_2
       replace hx279_3 := hcB HB.out hx279_3
       replace hx279_4 := hcB HB.out hx279_4
       have HR279_2 := Aside0.mk hi279_2
       have HC279_2 := Aside0.mk hl279_2
       clear hi279_2 hl279_2
       replace p279 := eq_true p279
       replace q279 := eq_true q279
       go_wp2_with (first | ((with_reducible refine gate_value rfl ?_); refine goesV_ (some 16) rfl rfl Try.func15 (by kernel_rfl) rfl #[.agg #[.int .i64 ((rd_T35 l0 x8_1).f0.f0), .int .i64 ((rd_T35 l0 x8_1).f0.f1), .slice A279_2 ((rd_T35 l0 x8_1).f0.f2).length c279_2, .int .i64 ((rd_T35 l0 x8_1).f1), .int .i64 ((rd_T35 l0 x8_1).f2)], .pointer (some ⟨b1_0, 0, none⟩)] rfl rfl (by (try simp only [List.map_toArray, List.map_cons, List.map_nil]); first | done | rfl | (simp only [List.length_drop, List.length_take]; rfl)) ?_; (with_reducible refine (scan_Despeckle_1.calls k1 ((rd_T35 l0 x8_1).f0.f0) ((rd_T35 l0 x8_1).f0.f1) _ _ ((rd_T35 l0 x8_1).f0.f2) ((rd_T35 l0 x8_1).f1) ((rd_T35 l0 x8_1).f2) b1_0 a1_0 false _ ?side1 ?side2 ?side3 A6.out).mono ?_); (case side1 => exact cU (Kd.C_below HR279_2.out HB.out)); (case side2 => exact HC279_2.out); (case side3 => exact by exact bU BK278.out); rintro e w9 ⟨rfl, hb⟩; refine ⟨_, rfl, ?_⟩; have n_ := aC (blk_below (bU BK278.out) hb) (aE (bs hb)); clear BK278 HB; obtain ⟨BK278, HB⟩ := n_))
       go_roundg k1
       case measure => have := HK1.out; omega
       case rel => exact ⟨(wrap64 (x8_1 + 1)), rq, H', ⟨by have := HK1.out; omega⟩, ⟨by exact bU BK278.out⟩, ⟨bl⟩⟩
     ·rw [if_neg c5] at H
      exact absurd H (by simp)
    ·rw [if_neg c4] at H
     exact absurd H (by simp)
   ·obtain rfl := Option.some.inj H
    go_wp2
    go_ret
    exact ⟨re, bl⟩
theorem box_put {P : Program} {ops : Array Oper} {rest : List Oper} {o : Oper} {a : Act} {Q : Exit → Act → World → Prop} {W : World} (t : TypeId) (p x : Operand) (ho : o.op = .store t p x) (hN : o.dst = none) (hgd : o.guard = none) {g e : Nat} {cur : Array Value} (u : Value) (seg : List Value) (hh : W.heap[g]? = some (.cells cur e (0, 0)))
  (haddr : a.eval p = .pointer (some ⟨g, 0, none⟩)) (hx : a.eval x = u) (hu : u.cells.toList = seg) (ht : (P.info? t).map (·.size) = some seg.length) (h1 : ∀ q ∈ seg, q.oneCell' = true) (hs : cur.size = seg.length)
  (h : ∀ w1, w1.heap[g]? = some (.cells seg.toArray e (0, 0)) → W.grownBy w1 (some g) → wpList P ops Q rest a w1) : wpList P ops Q (o :: rest) a W := by
 obtain ⟨cur', h3, h4, h5⟩ := setCells_row seg 0 W cur hh (by omega)
 obtain ⟨s1, s2, s3, s4⟩ := setCells_same g seg 0 W
 refine wpList_plain hgd fun K hK => ?_
 have hrun := run_store_run (P := P) (o := 0) t u seg hh hu ht (by omega) h1
 unfold Oper.wp execOp
 simp only [ho, haddr, hx, Sem.run_bind, Sem.run_pure, Result.andThen_ok, hrun]
 show K (a.put o.dst undef) _
 rw [hN]
 refine hK a _ (h _ ?_ ⟨s1, s2, s3, by rw [s4]; exact Nat.le_refl _, fun k _ hk => setCells_far seg _ k (fun z => hk (by rw [z]))⟩)
 rw [h3]
 have e : cur'.toList = seg := by
  rw [h5, List.take_zero, List.nil_append, Nat.zero_add, List.drop_eq_nil_of_le (by rw [Array.length_toList]; omega), List.append_nil]
 rw [← e]
theorem R_behind {α : Type} {d : Kd α} {e : Nat} {W : World} {base : Nat} {ok : Nat → Prop} {g n cap : Nat} {xs : List α} (h : d.R e W base ok (.slice (some ⟨g, 0, none⟩) n cap) xs) (seg : List Value) (o : Nat) (ho : n * d.sz ≤ o) (hfit : o + seg.length ≤ cap * d.sz) :
  d.R e (W.setCells g o seg) base ok (.slice (some ⟨g, 0, none⟩) n cap) xs ∧ W.grownBy (W.setCells g o seg) (some g) := by
 obtain ⟨hok, inner, ⟨h1, h2⟩, hr⟩ := h
 obtain ⟨s1, s2, s3, s4⟩ := setCells_same g seg o W
 refine ⟨?_, ⟨s1, s2, s3, by rw [s4]; exact Nat.le_refl _, fun k _ hk => setCells_far seg _ k (fun z => hk (by rw [z]))⟩⟩
 rcases h2 with ⟨hv, _⟩ | ⟨g', cap', cur, hv, hb, hh, hnc, hcm, hcs, ht⟩
 ·cases hv
 ·injection hv with ha hn hc
  injection ha with ha
  injection ha with hg
  subst hg; subst hc; subst hn
  obtain ⟨cur', h3, h4, h5⟩ := setCells_row seg o W cur hh (by omega)
  refine ⟨hok, inner, ⟨h1, .inr ⟨g, cap, cur', rfl, hb, h3, hnc, hcm, by rw [h4, hcs], ?_⟩⟩, hr.imp_ (fun _ _ hM => d.M_move (fun k hk => setCells_far seg o k (fun z => hk.2 (by rw [z]; rfl))) hM)⟩
  have hl : (cur.toList.take o).length = o := by rw [List.length_take, Array.length_toList]; omega
  rw [h5, List.append_assoc, List.take_append_of_le_length (by omega), List.take_take, Nat.min_eq_left ho, ht]
theorem run_clear_rows {P : Program} {w : World} (t e ty : TypeId) (z : Value) (sz m : Nat) (ht : P.underlying t = some (.slice e)) (hi : (P.info? e).map (·.zero) = some (some z)) (hzs : z.cells.size = sz) (h1 : ∀ u ∈ (Builtin.zeroCells z.cells m).toList, u.oneCell' = true) (b o c : Nat) (hm : 0 < m) {cur : Array Value} {e' : TypeId} (hh : w.heap[b]? = some (.cells cur e' (0, 0))) (hfit : o + m * sz ≤ cur.size) :
  (Builtin.clear_ #[t] ty #[.slice (some ⟨b, o, none⟩) m c]).run P w = .ok (.tuple #[]) (w.setCells b o (Builtin.zeroCells z.cells m).toList) := by
 have hl : (Builtin.zeroCells z.cells m).toList.length = m * sz := by rw [Array.length_toList, size_zeroCells, hzs]
 have hst := run_storeCells_cells (P := P) b o (Builtin.zeroCells z.cells m).toList 0 w (fun j hj => by rw [cell_of_row w b _ cur e' (0, 0) hh]; simp; omega) (fun j _ => blk_frozen hh _) h1
 simp only [Nat.add_zero] at hst
 obtain ⟨i, hi, hz⟩ := Option.map_eq_some_iff.1 hi
 obtain ⟨m, rfl⟩ : ∃ m', m = m' + 1 := ⟨m - 1, by omega⟩
 simp [Builtin.clear_, run_underlying ht, zeroValue, typeInfo, hi, hz, hst]
theorem clear_event {P : Program} {ops : Array Oper} {rest : List Oper} {o : Oper} {a : Act} {Q : Exit → Act → World → Prop} {W w1 : World} (t ty : TypeId) (x : Operand) (v : Value) (ho : o.op = .call { callee := .builtin .clear, args := #[x], argTypes := #[t] }) (hty : o.type = ty) (hN : o.dst = none) (hgd : o.guard = none) (hx : a.eval x = v)
  (hrun : (Builtin.clear_ #[t] ty #[v]).run P W = .ok (.tuple #[]) w1) (h : wpList P ops Q rest a w1) : wpList P ops Q (o :: rest) a W := by
 refine wpList_plain hgd fun K hK => ?_
 have he : (execOp a.eval o).run P W = .ok (.value (.tuple #[])) w1 := by
  unfold execOp
  have hb : ∀ cs, (builtin .clear #[t] ty cs #[v]).run P W = .ok (.value (.tuple #[])) w1 := fun cs => by
   show ((do pure (.value (← Builtin.clear_ #[t] ty #[v]))) : Sem Next).run P W = _
   simp [hrun]
  simp [ho, hty, hx, resolve, invoke, hb]
 unfold Oper.wp
 rw [he]
 simp only [Oper.upon]
 rw [hN]
 exact hK a _ h
def slices_DeleteFunc_15.l0 : Nat → List (S35) → Int → Int → Int → Option (List (S35))
 | 0, _, _, _, _ => none
 | k + 1, x0, x5, x6, a => if x6 < (x0.length : Int) then (if 0 ≤ x6 then ((scan_Despeckle_1.f k ((rd_T35 x0 x6).f0.f0) ((rd_T35 x0 x6).f0.f1) ((rd_T35 x0 x6).f0.f2) ((rd_T35 x0 x6).f1) ((rd_T35 x0 x6).f2) a).bind fun t => (if t = true then (slices_DeleteFunc_15.l0 k x0 x5 (wrap64 (x6 + 1)) a) else (if 0 ≤ x5 then (if x5 < (x0.length : Int) then (slices_DeleteFunc_15.l0 k (x0.set x5.toNat (rd_T35 x0 x6)) (wrap64 (x5 + 1)) (wrap64 (x6 + 1)) a) else (none)) else (none)))) else (none)) else (if 0 ≤ x5 then (if x5 < (x0.length : Int) then (some (x0.take x5.toNat)) else (none)) else (none))
def slices_DeleteFunc_15.f (k : Nat) (l0 : List (S35)) (a1_0 : Int) : Option (List (S35)) := (slices_IndexFunc_15.f k l0 a1_0).bind fun t => (if t = -1 then (some l0) else (slices_DeleteFunc_15.l0 k l0 t (wrap64 (t + 1)) a1_0))
theorem slices_DeleteFunc_15.mono_l : ∀ k, (∀ y0 y1 y2 y3, LeO (slices_DeleteFunc_15.l0 k y0 y1 y2 y3) (slices_DeleteFunc_15.l0 (k + 1) y0 y1 y2 y3))
 | 0 => fun _ _ _ _ r h => by simp [slices_DeleteFunc_15.l0] at h
 | k + 1 => by
  have ih0 := slices_DeleteFunc_15.mono_l k
  intro y0 y1 y2 y3
  unfold slices_DeleteFunc_15.l0
  repeat' first
  | (with_reducible exact ih0 _ _ _ _)
  | (with_reducible exact scan_Despeckle_1.mono _ _ _ _ _ _ _)
  | (with_reducible first | exact LeO.refl _ | exact LeO.none _ | refine LeO.ite ?_ ?_ | refine LeO.bind ?_ (fun _ => ?_))
theorem slices_DeleteFunc_15.mono : ∀ a0 a1 k, LeO (slices_DeleteFunc_15.f k a0 a1) (slices_DeleteFunc_15.f (k + 1) a0 a1) := by
 intro a0 a1 k
 have ih0 := slices_DeleteFunc_15.mono_l k
 unfold slices_DeleteFunc_15.f
 repeat' first
 | (with_reducible exact ih0 _ _ _ _)
 | (with_reducible exact slices_IndexFunc_15.mono _ _ _)
 | (with_reducible first | exact LeO.refl _ | exact LeO.none _ | refine LeO.ite ?_ ?_ | refine LeO.bind ?_ (fun _ => ?_))
theorem slices_DeleteFunc_15.pos {k : Nat} {x0 : List S35} {x5 x6 a : Int} {r : List S35} (h : slices_DeleteFunc_15.l0 k x0 x5 x6 a = some r) : 0 < x0.length := by
 cases k with
 | zero => simp [slices_DeleteFunc_15.l0] at h
 | succ k =>
  rcases Nat.eq_zero_or_pos x0.length with q | q
  ·unfold slices_DeleteFunc_15.l0 at h
   by_cases c : x6 < (x0.length : Int)
   ·rw [if_pos c, if_neg (by omega)] at h
    simp at h
   ·rw [if_neg c] at h
    by_cases c5 : 0 ≤ x5
    ·rw [if_pos c5, if_neg (by omega)] at h
     simp at h
    ·rw [if_neg c5] at h
     simp at h
  ·exact q
theorem grown_more {w w1 w2 : World} {g : Nat} {row : Option Nat} (h : w.grownBy w1 (some g)) (k : w1.grownBy w2 row) (hr : ∀ b, row = some b → b = g ∨ w.heap.size ≤ b) : w.grownBy w2 (some g) :=
 ⟨k.os.trans h.os, k.tape.trans h.tape, k.output.trans h.output, Nat.le_trans h.size k.size, fun i hi hne => (k.block i (Nat.lt_of_lt_of_le hi h.size) (fun z => by
  rcases hr i z.symm with y | y
  ·exact hne (by rw [y])
  ·omega)).trans (h.block i hi hne)⟩
theorem grown_on {w w1 w2 : World} {g : Nat} (h : w.grownBy w1 (some g)) (k : Below w1.heap.size w1 w2) : w.grownBy w2 (some g) := grown_more h (grown_of_below k none) (fun _ z => by cases z)
theorem R_clear {P : Program} {ops : Array Oper} {rest : List Oper} {o : Oper} {a : Act} {Q : Exit → Act → World → Prop} {W : World} {α : Type} (d : Kd α) (t ty : TypeId) (x : Operand) (ho : o.op = .call { callee := .builtin .clear, args := #[x], argTypes := #[t] }) (hty : o.type = ty) (hN : o.dst = none) (hgd : o.guard = none)
  {e g n cap i c' base : Nat} {ok : Nat → Prop} {xs : List α} (z : Value) (ht : P.underlying t = some (.slice e)) {inf : TypeInfo} (hi : P.info? e = some inf) (hz : inf.zero = some z) (hzs : z.cells.size = d.sz) (hsz : 0 < d.sz) (hz1 : ∀ u ∈ z.cells.toList, u.oneCell' = true)
  (HO : d.R e W base ok (.slice (some ⟨g, 0, none⟩) n cap) xs) (hin : i < n) (hx : a.eval x = .slice (some ⟨g, i * d.sz, none⟩) (n - i) c')
  (h : ∀ w1, d.R e w1 base ok (.slice (some ⟨g, 0, none⟩) i cap) (xs.take i) → W.grownBy w1 (some g) → wpList P ops Q rest a w1) : wpList P ops Q (o :: rest) a W := by
 have hn : n = xs.length ∧ n ≤ cap := ⟨(Kd.R_reads' HO).1, (Kd.R_reads' HO).2.1⟩
 have hfit : i * d.sz + (n - i) * d.sz ≤ cap * d.sz := by
  rw [← Nat.add_mul]
  exact Nat.mul_le_mul_right _ (by omega)
 have hl : (Builtin.zeroCells z.cells (n - i)).toList.length = (n - i) * d.sz := by rw [Array.length_toList, size_zeroCells, hzs]
 have h1 : ∀ u ∈ (Builtin.zeroCells z.cells (n - i)).toList, u.oneCell' = true := Kd.reps_one (Kd.reps_zeros (R := fun (_ : Unit) cs => ∀ u ∈ cs, u.oneCell' = true) (z0 := ()) hzs hsz hz1 (n - i)) hsz (fun _ _ hp => hp)
 obtain ⟨_, inner, ⟨_, ho2⟩, _⟩ := id HO
 rcases ho2 with ⟨hv, _⟩ | ⟨g', cap', cur, hv, hb, hh, hnc, hcm, hcs, ht'⟩
 ·cases hv
 ·injection hv with ha hn' hc
  injection ha with ha
  injection ha with hg
  subst hg; subst hc
  have hrun := run_clear_rows (P := P) t e ty z d.sz (n - i) ht (by rw [hi]; exact congrArg some hz) hzs h1 g (i * d.sz) c' (by omega) hh (by omega)
  have hR := R_behind (Kd.R_take (m := i) HO (by omega)) (Builtin.zeroCells z.cells (n - i)).toList (i * d.sz) (Nat.le_refl _) (by omega)
  exact clear_event t ty x _ ho hty hN hgd hx hrun (h _ hR.1 hR.2)
set_option maxHeartbeats 8000000 in
set_option maxRecDepth 100000 in
theorem slices_DeleteFunc_15.calls (k : Nat) (A0 : Option Addr) (c0 : Nat) (l0 : List (S35)) (b1_0 : Nat) (a1_0 : Int) (r : List (S35)) (w : World) (base : Nat) (ok : Nat → Prop) (hr0 : Kd.R k35 35 w base ok (.slice A0 l0.length c0) l0) (hbx1_0 : w.heap[b1_0]? = some (.cells #[.int .i64 a1_0] 3 (0, 0))) (h : slices_DeleteFunc_15.f k l0 a1_0 = some r) :
  Calls Try.prog 14 #[.slice A0 l0.length c0, .func (.func 15) #[] #[.pointer (some ⟨b1_0, 0, none⟩)]] w fun e w' => ∃ v, e = .returned v ∧ Kd.R k35 35 w' base ok v r ∧ w.grownBy w' (Value.slice A0 l0.length c0).ownBlock := by
 have hu35 := Try.underlying35
 have hu30 := Try.underlying30
 have HO := Aside0.mk hr0
 have BK := Aside0.mk hbx1_0
 clear hr0 hbx1_0
 have HG := Aside0.mk (grown_of_below (Below.refl w.heap.size w) (Value.slice A0 l0.length c0).ownBlock)
 have H := h
 unfold slices_DeleteFunc_15.f at H
 clear h
 obtain ⟨t1, A1, H⟩ := oB H
 try dsimp only at H
 rcases iE H with H1 | H1 <;> clear H <;> obtain ⟨H, c4b0, c4b1, c4⟩ := H1
 ·obtain rfl := Option.some.inj H
  go_enter Try.func14, Try.ntmps14
  go_wp2_with (first | ((with_reducible refine gf 26 rfl ?_); refine gL (some 10) rfl rfl Try.func26 rfl #[.slice A0 l0.length c0, .func (.func 15) #[] #[.pointer (some ⟨b1_0, 0, none⟩)]] rfl ?_; (with_reducible refine (slices_IndexFunc_15.calls k A0 c0 l0 b1_0 a1_0 t1 _ ?side1 ?side2 ?side3 A1.out).mono ?_); (case side1 => exact cU (Kd.R_reads' HO.out).2.2); (case side2 => exact (Kd.R_reads' HO.out).2.1); (case side3 => exact bU BK.out); rintro e w1 ⟨rfl, hb⟩; refine ⟨_, rfl, ?_⟩; have n_ := aC (Kd.R_below HO.out hb) (aE (grown_of_below hb (Value.slice A0 l0.length c0).ownBlock)); clear HO HG; obtain ⟨HO, HG⟩ := n_))
  go_ret
  exact ⟨_, rfl, HO.out, HG.out⟩
 ·have hpos := slices_DeleteFunc_15.pos H
  have A2 := Aside0.mk H
  clear H
  obtain ⟨g, cap, hv, hbg, hgl, cells, hcells⟩ := Kd.R_form HO.out hpos
  injection hv with hv1 hv2 hv3
  subst hv1; subst hv3
  have hne : b1_0 ≠ g := fun z => Kd.R_ne HO.out BK.out (by decide) (by rw [z]; rfl)
  go_enter Try.func14, Try.ntmps14
  go_wp2_with (first | ((with_reducible refine gf 26 rfl ?_); refine gL (some 10) rfl rfl Try.func26 rfl #[.slice (some ⟨g, 0, none⟩) l0.length c0, .func (.func 15) #[] #[.pointer (some ⟨b1_0, 0, none⟩)]] rfl ?_; (with_reducible refine (slices_IndexFunc_15.calls k (some ⟨g, 0, none⟩) c0 l0 b1_0 a1_0 t1 _ ?side1 ?side2 ?side3 A1.out).mono ?_); (case side1 => exact cU (Kd.R_reads' HO.out).2.2); (case side2 => exact (Kd.R_reads' HO.out).2.1); (case side3 => exact bU BK.out); rintro e w1 ⟨rfl, hb⟩; refine ⟨_, rfl, ?_⟩; have n_ := aC (Kd.R_below HO.out hb) (aC (blk_below (bU BK.out) hb) (aE (grown_of_below hb (some g)))); clear HO HG BK; obtain ⟨HO, BK, HG⟩ := n_))
  go_loopg [5, 6] k (fun kq v5 v6 w' => ∃ (x0_1 : List (S35)) (x5_1 x6_1 : Int), v5 = .int .i64 x5_1 ∧ v6 = .int .i64 x6_1 ∧ Aside0 (slices_DeleteFunc_15.l0 kq x0_1 x5_1 x6_1 a1_0 = some r) ∧ Aside0 (kq ≤ k) ∧ Aside0 (x0_1.length = l0.length) ∧ Aside0 (Kd.R k35 35 w' base ok (.slice (some ⟨g, 0, none⟩) l0.length c0) x0_1) ∧ Aside0 (w'.heap[b1_0]? = some (.cells #[.int .i64 a1_0] 3 (0, 0))) ∧ Aside0 (w.grownBy w' (some g)))
  case atStart => exact ⟨l0, t1, (wrap64 (t1 + 1)), rq, rq, A2, ⟨Nat.le_refl _⟩, ⟨rfl⟩, ⟨HO.out⟩, ⟨by exact bU BK.out⟩, ⟨HG.out⟩⟩
  case round =>
   clear A2
   obtain ⟨x0_1, x5_1, x6_1, rfl, rfl, HA, HK1, HL, HO, BK, HG⟩ := hrel
   cases gk with
   | zero => exact absurd HA.out (by simp [slices_DeleteFunc_15.l0])
   | succ k1 =>
    have H := HA.out
    clear HA
    simp only [slices_DeleteFunc_15.l0] at H
    rw [HL.out] at H
    rcases iL H with H1 | H1 <;> clear H <;> obtain ⟨H, c3b0⟩ := H1
    ·by_cases c4 : 0 ≤ x6_1
     ·rw [if_pos c4] at H
      have c4b0 := decide_eq_true c4
      obtain ⟨t2, A6, H⟩ := oB H
      try dsimp only at H
      have q6 : x6_1 < (l0.length : Int) := dt
      obtain ⟨ad, A2, c2, e2, hx_0, hx_1, hx_2, hx_3, hx_4, hl2, hi2⟩ := at_T35 (Kd.R_reads' HO.out).2.2 x6_1 c4 (by rw [HL.out]; exact q6)
      cases e2
      obtain ⟨cc, hcl, hM, hcc, _⟩ := Kd.R_elem HO.out z35 x6_1 c4 q6
      obtain ⟨v2, rfl, _⟩ := k35_openM hM
      have e3 := hcc 2 v2 rfl
      simp only [add_plain] at hx_0 hx_1 hx_2 hx_3 hx_4
      have e4 := hx_2
      have e5 := Option.some.inj (e3.symm.trans e4)
      subst e5
      have HM := Aside0.mk (k35.M_bound hM)
      have HF2 := Aside0.mk (Kd.C_F (Kd.heap_int .u8) hi2)
      have HC2 := Aside0.mk hl2
      clear hM hcc e3 e4 hcl hi2 hl2
      have p6 := eq_true c4
      have r6 := eq_true q6
      clear c4
      by_cases c7 : t2 = true
      ·subst c7
       rw [if_pos rfl] at H
       have H' := Aside0.mk H
       clear H
       go_wp2_with (first | ((with_reducible refine gd 7 rfl ?_); refine bx 7 #[.int .i64 0, .int .i64 0, .slice none 0 0, .int .i64 0, .int .i64 0] 35 rfl rfl ?_; intro gb hgb wA hbox hb; have n_ := aC (Kd.R_below (Kd.R_mono (ok' := fun k => ok k ∧ k ≠ gb) (Kd.R_bound HO.out) (fun k hk => ⟨hk.1, by rw [hgb]; exact Nat.ne_of_lt hk.2.2.1⟩)) hb) (aC (blk_below BK.out hb) (aC (grown_on HG.out hb) (aC hbox (aC (k35.M_mono (ok' := fun k => (ok k ∧ k ≠ g) ∧ k ≠ gb) (fun k hk => ⟨hk.1, by rw [hgb]; exact Nat.ne_of_lt hk.2.2.1⟩) (Kd.M_below HM.out hb)) (aC (Kd.F_mono (ok' := fun k => k ≠ gb) (Kd.F_below HF2.out hb) (fun k hk => by rw [hgb]; exact Nat.ne_of_lt hk)) (aC ((by rw [hgb]; exact Nat.ne_of_lt (blk_lt BK.out)) : b1_0 ≠ gb) (aE ((by rw [hgb]; exact HG.out.size) : w.heap.size ≤ gb))))))));  clear HO BK HG HM HF2 hbox hb hgb; obtain ⟨HO, BK, HG, HBX, HM, HF2, HNB, HGE⟩ := n_) | ((with_reducible refine gate_ (.store 35 (.tmp 7) (.tmp 25)) rfl ?_); refine box_put 35 (.tmp 7) (.tmp 25) rfl rfl rfl (.agg #[.int .i64 ((rd_T35 x0_1 x6_1).f0.f0), .int .i64 ((rd_T35 x0_1 x6_1).f0.f1), .slice A2 ((rd_T35 x0_1 x6_1).f0.f2).length c2, .int .i64 ((rd_T35 x0_1 x6_1).f1), .int .i64 ((rd_T35 x0_1 x6_1).f2)]) [.int .i64 ((rd_T35 x0_1 x6_1).f0.f0), .int .i64 ((rd_T35 x0_1 x6_1).f0.f1), .slice A2 ((rd_T35 x0_1 x6_1).f0.f2).length c2, .int .i64 ((rd_T35 x0_1 x6_1).f1), .int .i64 ((rd_T35 x0_1 x6_1).f2)] HBX.out rfl rfl rfl (by kernel_rfl) (by simp [Value.oneCell']) rfl ?_; intro wB hbox hgr; have n_ := aC (Kd.R_grown HO.out hgr (fun k hk z => hk.2 (Option.some.inj z))) (aC (blk_grown BK.out hgr (fun z => HNB.out (Option.some.inj z))) (aC (grown_more HG.out hgr (fun b z => .inr (by rw [← Option.some.inj z]; exact HGE.out))) (aC hbox (aC (Kd.M_grown HM.out hgr (fun k hk z => hk.2 (Option.some.inj z))) (aE (Kd.F_grown HF2.out hgr (fun k hk z => hk (Option.some.inj z)))))))); clear HO BK HG HBX HM HF2 hbox hgr; obtain ⟨HO, BK, HG, HBX, HM, HF2⟩ := n_; obtain ⟨hcz_0, hcz_1, hcz_2, hcz_3, hcz_4, hfz_0, hfz_1, hfz_2, hfz_3, hfz_4⟩ := cz5f HBX.out) | ((with_reducible refine gate_value rfl ?_); refine goesV_ (some 28) rfl rfl Try.func15 (by kernel_rfl) rfl #[.agg #[.int .i64 ((rd_T35 x0_1 x6_1).f0.f0), .int .i64 ((rd_T35 x0_1 x6_1).f0.f1), .slice A2 ((rd_T35 x0_1 x6_1).f0.f2).length c2, .int .i64 ((rd_T35 x0_1 x6_1).f1), .int .i64 ((rd_T35 x0_1 x6_1).f2)], .pointer (some ⟨b1_0, 0, none⟩)] rfl rfl (by (try simp only [List.map_toArray, List.map_cons, List.map_nil]); first | done | rfl | (simp only [List.length_drop, List.length_take]; rfl)) ?_; (with_reducible refine (scan_Despeckle_1.calls k1 ((rd_T35 x0_1 x6_1).f0.f0) ((rd_T35 x0_1 x6_1).f0.f1) _ _ ((rd_T35 x0_1 x6_1).f0.f2) ((rd_T35 x0_1 x6_1).f1) ((rd_T35 x0_1 x6_1).f2) b1_0 a1_0 true _ ?side1 ?side2 ?side3 A6.out).mono ?_); (case side1 => exact Kd.F_now HF2.out); (case side2 => exact HC2.out); (case side3 => exact BK.out); rintro e wC ⟨rfl, hb⟩; refine ⟨_, rfl, ?_⟩; have n_ := aC (Kd.R_below HO.out hb) (aC (blk_below BK.out hb) (aC (grown_on HG.out hb) (aC (blk_below HBX.out hb) (aE (Kd.M_below HM.out hb))))); clear HO BK HG HBX HM; obtain ⟨HO, BK, HG, HBX, HM⟩ := n_; obtain ⟨hcz_0, hcz_1, hcz_2, hcz_3, hcz_4, hfz_0, hfz_1, hfz_2, hfz_3, hfz_4⟩ := cz5f HBX.out))
       go_roundg k1
       case measure => have := HK1.out; omega
       case rel => exact ⟨x0_1, x5_1, (wrap64 (x6_1 + 1)), rq, rq, H', ⟨by have := HK1.out; omega⟩, HL, ⟨Kd.R_mono HO.out (fun _ hk => hk.1)⟩, ⟨BK.out⟩, ⟨HG.out⟩⟩
      ·replace c7 := Bool.eq_false_iff.mpr c7
       subst c7
       rw [if_neg Bool.false_ne_true] at H
       by_cases c5 : 0 ≤ x5_1
       ·rw [if_pos c5] at H
        by_cases c6 : x5_1 < (l0.length : Int)
        ·rw [if_pos c6] at H
         have H' := Aside0.mk H
         clear H
         have p5 := eq_true c5
         have r5 := eq_true c6
         clear c5 c6
         go_wp2_with (first | ((with_reducible refine gd 7 rfl ?_); refine bx 7 #[.int .i64 0, .int .i64 0, .slice none 0 0, .int .i64 0, .int .i64 0] 35 rfl rfl ?_; intro gb hgb wA hbox hb; have n_ := aC (Kd.R_below (Kd.R_mono (ok' := fun k => ok k ∧ k ≠ gb) (Kd.R_bound HO.out) (fun k hk => ⟨hk.1, by rw [hgb]; exact Nat.ne_of_lt hk.2.2.1⟩)) hb) (aC (blk_below BK.out hb) (aC (grown_on HG.out hb) (aC hbox (aC (k35.M_mono (ok' := fun k => (ok k ∧ k ≠ g) ∧ k ≠ gb) (fun k hk => ⟨hk.1, by rw [hgb]; exact Nat.ne_of_lt hk.2.2.1⟩) (Kd.M_below HM.out hb)) (aC (Kd.F_mono (ok' := fun k => k ≠ gb) (Kd.F_below HF2.out hb) (fun k hk => by rw [hgb]; exact Nat.ne_of_lt hk)) (aC ((by rw [hgb]; exact Nat.ne_of_lt (blk_lt BK.out)) : b1_0 ≠ gb) (aE ((by rw [hgb]; exact HG.out.size) : w.heap.size ≤ gb))))))));  clear HO BK HG HM HF2 hbox hb hgb; obtain ⟨HO, BK, HG, HBX, HM, HF2, HNB, HGE⟩ := n_) | ((with_reducible refine gate_ (.store 35 (.tmp 7) (.tmp 25)) rfl ?_); refine box_put 35 (.tmp 7) (.tmp 25) rfl rfl rfl (.agg #[.int .i64 ((rd_T35 x0_1 x6_1).f0.f0), .int .i64 ((rd_T35 x0_1 x6_1).f0.f1), .slice A2 ((rd_T35 x0_1 x6_1).f0.f2).length c2, .int .i64 ((rd_T35 x0_1 x6_1).f1), .int .i64 ((rd_T35 x0_1 x6_1).f2)]) [.int .i64 ((rd_T35 x0_1 x6_1).f0.f0), .int .i64 ((rd_T35 x0_1 x6_1).f0.f1), .slice A2 ((rd_T35 x0_1 x6_1).f0.f2).length c2, .int .i64 ((rd_T35 x0_1 x6_1).f1), .int .i64 ((rd_T35 x0_1 x6_1).f2)] HBX.out rfl rfl rfl (by kernel_rfl) (by simp [Value.oneCell']) rfl ?_; intro wB hbox hgr; have n_ := aC (Kd.R_grown HO.out hgr (fun k hk z => hk.2 (Option.some.inj z))) (aC (blk_grown BK.out hgr (fun z => HNB.out (Option.some.inj z))) (aC (grown_more HG.out hgr (fun b z => .inr (by rw [← Option.some.inj z]; exact HGE.out))) (aC hbox (aC (Kd.M_grown HM.out hgr (fun k hk z => hk.2 (Option.some.inj z))) (aE (Kd.F_grown HF2.out hgr (fun k hk z => hk (Option.some.inj z)))))))); clear HO BK HG HBX HM HF2 hbox hgr; obtain ⟨HO, BK, HG, HBX, HM, HF2⟩ := n_; obtain ⟨hcz_0, hcz_1, hcz_2, hcz_3, hcz_4, hfz_0, hfz_1, hfz_2, hfz_3, hfz_4⟩ := cz5f HBX.out) | ((with_reducible refine gate_value rfl ?_); refine goesV_ (some 28) rfl rfl Try.func15 (by kernel_rfl) rfl #[.agg #[.int .i64 ((rd_T35 x0_1 x6_1).f0.f0), .int .i64 ((rd_T35 x0_1 x6_1).f0.f1), .slice A2 ((rd_T35 x0_1 x6_1).f0.f2).length c2, .int .i64 ((rd_T35 x0_1 x6_1).f1), .int .i64 ((rd_T35 x0_1 x6_1).f2)], .pointer (some ⟨b1_0, 0, none⟩)] rfl rfl (by (try simp only [List.map_toArray, List.map_cons, List.map_nil]); first | done | rfl | (simp only [List.length_drop, List.length_take]; rfl)) ?_; (with_reducible refine (scan_Despeckle_1.calls k1 ((rd_T35 x0_1 x6_1).f0.f0) ((rd_T35 x0_1 x6_1).f0.f1) _ _ ((rd_T35 x0_1 x6_1).f0.f2) ((rd_T35 x0_1 x6_1).f1) ((rd_T35 x0_1 x6_1).f2) b1_0 a1_0 false _ ?side1 ?side2 ?side3 A6.out).mono ?_); (case side1 => exact Kd.F_now HF2.out); (case side2 => exact HC2.out); (case side3 => exact BK.out); rintro e wC ⟨rfl, hb⟩; refine ⟨_, rfl, ?_⟩; have n_ := aC (Kd.R_below HO.out hb) (aC (blk_below BK.out hb) (aC (grown_on HG.out hb) (aC (blk_below HBX.out hb) (aE (Kd.M_below HM.out hb))))); clear HO BK HG HBX HM; obtain ⟨HO, BK, HG, HBX, HM⟩ := n_; obtain ⟨hcz_0, hcz_1, hcz_2, hcz_3, hcz_4, hfz_0, hfz_1, hfz_2, hfz_3, hfz_4⟩ := cz5f HBX.out) | ((with_reducible refine gate_ (.store 35 (.tmp 33) (.tmp 32)) rfl ?_); obtain ⟨cx, hcl, _, hcc, _⟩ := Kd.R_elem HO.out z35 x5_1 (of_eq_true p5) (of_eq_true r5); refine Kd.R_store (w0 := _) k35 base rfl rfl 35 (.tmp 33) (.tmp 32) rfl 35 x5_1 0 x0_1 (rd_T35 x0_1 x6_1) (.agg #[.int .i64 ((rd_T35 x0_1 x6_1).f0.f0), .int .i64 ((rd_T35 x0_1 x6_1).f0.f1), .slice A2 ((rd_T35 x0_1 x6_1).f0.f2).length c2, .int .i64 ((rd_T35 x0_1 x6_1).f1), .int .i64 ((rd_T35 x0_1 x6_1).f2)]) [.int .i64 ((rd_T35 x0_1 x6_1).f0.f0), .int .i64 ((rd_T35 x0_1 x6_1).f0.f1), .slice A2 ((rd_T35 x0_1 x6_1).f0.f2).length c2, .int .i64 ((rd_T35 x0_1 x6_1).f1), .int .i64 ((rd_T35 x0_1 x6_1).f2)] cx (fun k => ok k ∧ k ≠ gb) (fun k => (ok k ∧ k ≠ g) ∧ k ≠ gb) ?haddr rfl rfl rfl (by kernel_rfl) (by simp [Value.oneCell']) HO.out (of_eq_true p5) (of_eq_true r5) hcl hcc (Nat.le_refl _) ?hM (fun k hk => ⟨⟨hk.1.1, hk.2⟩, hk.1.2⟩) (Below.refl _ _) ?_; (case haddr => first | rfl | (simp [add_plain]; rfl)); (case hM => rw [List.take_zero, List.nil_append, List.drop_eq_nil_of_le (by rw [hcl]; exact Nat.le_refl _), List.append_nil]; exact HM.out); intro wD hr5 _ hgr; have n_ := aC hr5 (aC (blk_grown BK.out hgr (fun z => hne (Option.some.inj z))) (aE (grown_more HG.out hgr (fun b z => .inl (Option.some.inj z).symm)))); clear HO BK HG hr5 hgr hcc hcl; obtain ⟨HO, BK, HG⟩ := n_))
         go_roundg k1
         case measure => have := HK1.out; omega
         case rel => exact ⟨x0_1.set x5_1.toNat (rd_T35 x0_1 x6_1), (wrap64 (x5_1 + 1)), (wrap64 (x6_1 + 1)), rq, rq, H', ⟨by have := HK1.out; omega⟩, ⟨by rw [List.length_set]; exact HL.out⟩, ⟨Kd.R_mono HO.out (fun _ hk => hk.1)⟩, ⟨BK.out⟩, ⟨HG.out⟩⟩
        ·rw [if_neg c6] at H
         exact absurd H (by simp)
       ·rw [if_neg c5] at H
        exact absurd H (by simp)
     ·rw [if_neg c4] at H
      exact absurd H (by simp)
    ·by_cases c5 : 0 ≤ x5_1
     ·rw [if_pos c5] at H
      by_cases c6 : x5_1 < (l0.length : Int)
      ·rw [if_pos c6] at H
       obtain rfl := Option.some.inj H
       obtain ⟨i0, hi0, hz0, hsz0, _⟩ := info_parts info35
       have hcap := (Kd.R_reads' HO.out).2.1
       have hcut := cut_from (P := Try.prog) 30 35 .i64 Try.underlying30 hi0 5 hsz0 (some ⟨g, 0, none⟩) l0.length c0 x5_1 c5 (by omega)
       rw [if_neg (by omega), Option.map_some, add_plain] at hcut
       have hcut2 := cut_to (P := Try.prog) 30 35 .i64 Try.underlying30 hi0 (some ⟨g, 0, none⟩) l0.length c0 x5_1 c5 (by omega) hcap
       go_wp2_with (first | ((with_reducible refine gate_ (.call { callee := .builtin .clear, args := #[.tmp 38], argTypes := #[30] }) rfl ?_); refine R_clear k35 30 0 (.tmp 38) rfl rfl rfl rfl (i := x5_1.toNat) (c' := c0 - x5_1.toNat) _ Try.underlying30 hi0 hz0 rfl (by decide) (by decide) HO.out (by omega) rfl ?_; intro w5 hr5 hg5; have n_ := aC hr5 (aE (grown_more HG.out hg5 (fun b z => .inl (Option.some.inj z).symm))); clear HO HG hr5 hg5; obtain ⟨HO, HG⟩ := n_))
       go_ret
       exact ⟨_, rfl, HO.out, HG.out⟩
      ·rw [if_neg c6] at H
       exact absurd H (by simp)
     ·rw [if_neg c5] at H
      exact absurd H (by simp)
def scan_Despeckle.f (k : Nat) (a0_0 : Int) (a0_1 : Int) (l0_2 : List Int) (a1 : Int) : Option (Int × Int × List Int × Int) := (shape_Components.f k a0_0 a0_1 l0_2).bind fun bt284 => (if bt284.2 = 0 then (if a1 < 0 then (some (0, 0, ([] : List Int), 2)) else ((slices_DeleteFunc_15.f k bt284.1 a1).bind fun t288 => ((shape_Draw.f k a0_0 a0_1 t288).bind fun bt291 => (some (bt291.1, bt291.2.1, bt291.2.2.1, bt291.2.2.2))))) else (some (0, 0, ([] : List Int), 30)))
theorem scan_Despeckle.mono : ∀ a0 a1 a2 a3 k, LeO (scan_Despeckle.f k a0 a1 a2 a3) (scan_Despeckle.f (k + 1) a0 a1 a2 a3) := by
 intro a0 a1 a2 a3 k
 unfold scan_Despeckle.f
 repeat' first
   | (with_reducible exact shape_Components.mono _ _ _ _)
   | (with_reducible exact shape_Draw.mono _ _ _ _)
   | (with_reducible exact slices_DeleteFunc_15.mono _ _ _)
   | (with_reducible first | exact LeO.refl _ | exact LeO.none _ | refine LeO.ite ?_ ?_ | refine LeO.bind ?_ (fun _ => ?_))
set_option maxHeartbeats 8000000 in
set_option maxRecDepth 100000 in
theorem scan_Despeckle.calls (k : Nat) (a0_0 : Int) (a0_1 : Int) (A0_2 : Option Addr) (c0_2 : Nat) (l0_2 : List Int) (a1 : Int) (r1 : Int) (r2 : Int) (r3 : List Int) (r4 : Int) (w : World) (hr0_2 : Kd.C (Kd.int .u8) w A0_2 l0_2.length l0_2) (hc0_2 : l0_2.length ≤ c0_2) (h : scan_Despeckle.f k a0_0 a0_1 l0_2 a1 = some (r1, r2, r3, r4)) :
  Calls Try.prog 5 #[.agg #[.int .i64 a0_0, .int .i64 a0_1, .slice A0_2 l0_2.length c0_2], .int .i64 a1] w fun e w' => ∃ v2_ : Value, e = .returned (.tuple #[.agg #[.int .i64 r1, .int .i64 r2, v2_], .int .i64 r4]) ∧ Kd.R (Kd.int .u8) 5 w' w.heap.size (fun _ => True) v2_ r3 ∧ Below w.heap.size w w' := by
 have hu24 := Try.underlying24
 have HR0_2 := Aside0.mk hr0_2
 have HC0_2 := Aside0.mk hc0_2
 clear hr0_2 hc0_2
 have HB := Aside0.mk (Below.refl w.heap.size w)
 have H := h
 unfold scan_Despeckle.f at H
 clear h
 obtain ⟨⟨t284, t287⟩, A3, H⟩ := oB H
 try dsimp only at H
 rcases iE H with H1 | H1 <;> clear H <;> obtain ⟨H, c4b0, c4b1, c4⟩ := H1
 ·rcases iL H with H1 | H1 <;> clear H <;> obtain ⟨H, c5b0⟩ := H1
  ·simp only [Option.some.injEq, Prod.mk.injEq] at H
   obtain ⟨rfl, rfl, rfl, rfl⟩ := H
   go_enter Try.func5, Try.ntmps5
   go_wp2_with (first | ((with_reducible refine gd 2 rfl ?_); refine bx 2 #[.int .i64 a0_0, .int .i64 a0_1, .slice A0_2 l0_2.length c0_2] 24 rfl rfl ?_; intro gb281 hg w6 hbox hb; have n_ := aC (bs hb) (aC hbox (aC (gz hg) (aE (gz hg)))); clear HB; obtain ⟨HB, BK281, GW281, GE281⟩ := n_; clear hb hbox hg) | ((with_reducible refine gd 3 rfl ?_); refine bx 3 #[.int .i64 a1] 3 rfl rfl ?_; intro gb282 hg w7 hbox hb; have n_ := aC (blk_below (bU BK281.out) hb) (aC (bs hb) (aC hbox (aC (gz hg) (aC (gz hg) (aC (gn hg (bU BK281.out)) (aE (gm hg (bU BK281.out)))))))); clear BK281 HB; obtain ⟨BK281, HB, BK282, GW282, GE282, NB281_282, NB282_281⟩ := n_; clear hb hbox hg) | ((with_reducible refine gd 4 rfl ?_); refine bx 4 #[.int .i64 0, .int .i64 0, .slice none 0 0] 24 rfl rfl ?_; intro gb283 hg w8 hbox hb; have n_ := aC (blk_below (bU BK281.out) hb) (aC (blk_below (bU BK282.out) hb) (aC (bs hb) (aC hbox (aC (gz hg) (aC (gz hg) (aC (gn hg (bU BK281.out)) (aC (gm hg (bU BK281.out)) (aC (gn hg (bU BK282.out)) (aE (gm hg (bU BK282.out))))))))))); clear BK281 BK282 HB; obtain ⟨BK281, BK282, HB, BK283, GW283, GE283, NB281_283, NB283_281, NB282_283, NB283_282⟩ := n_; clear hb hbox hg; have hnb9 := NB281_282.out; have hnc9 := NB282_281.out; have hnb10 := NB281_283.out; have hnc10 := NB283_281.out; obtain ⟨hcz11_0, hcz11_1, hcz11_2, hfz11_0, hfz11_1, hfz11_2⟩ := cz3f BK281.out) | ((with_reducible refine gf 13 rfl ?_); refine gL (some 10) rfl rfl Try.func13 rfl #[.agg #[.int .i64 a0_0, .int .i64 a0_1, .slice A0_2 l0_2.length c0_2]] rfl ?_; (with_reducible refine (shape_Components.calls k a0_0 a0_1 _ _ l0_2 t284 t287 _ ?side1 ?side2 A3.out).mono ?_); (case side1 => exact cU (Kd.C_below HR0_2.out HB.out)); (case side2 => exact HC0_2.out); rintro e w12 ⟨v285, rfl, ho0, hb⟩; refine ⟨_, rfl, ?_⟩; have n_ := aC (Kd.S_lower ho0 bz) (aC (blk_below (bU BK281.out) hb) (aC (blk_below (bU BK282.out) hb) (aC (blk_below (bU BK283.out) hb) (aE (bs hb))))); clear BK281 BK282 BK283 HB; obtain ⟨HO286, BK281, BK282, BK283, HB⟩ := n_; have hnb13 := NB282_283.out; have hnc13 := NB283_282.out; obtain ⟨hcz14_0, hfz14_0⟩ := cz1f BK282.out; obtain ⟨hcz15_0, hcz15_1, hcz15_2, hfz15_0, hfz15_1, hfz15_2⟩ := cz3f BK283.out))
   refine bodyPost_ret (results_ct rfl _ _ gb283 24 #[.int .i64 0, .int .i64 0, .slice none 0 0] (0, 0) _ rfl (by (with_reducible repeat (first | refine blk_drewN ?_ _ | refine blk_drew ?_ | refine blk_alloc ?_ _)); refine blk_put (cs := #[.int .i64 0, .int .i64 0, .slice none 0 0]) ?_ 2 _ rfl; (with_reducible repeat (first | refine blk_drewN ?_ _ | refine blk_drew ?_ | refine blk_alloc ?_ _)); refine blk_put (cs := #[.int .i64 0, .int .i64 0, .slice none 0 0]) ?_ 1 _ rfl; (with_reducible repeat (first | refine blk_drewN ?_ _ | refine blk_drew ?_ | refine blk_alloc ?_ _)); refine blk_put (cs := #[.int .i64 0, .int .i64 0, .slice none 0 0]) ?_ 0 _ rfl; exact bU BK283.out) Try.underlying24 rfl (by kernel_rfl)) rfl ?_
   exact ⟨_, re, by first | exact Kd.R_nil _ _ _ _ _ | exact Kd.N_nil _ _ _ _ _ | exact Kd.V_nil _ _ _ _ _ | exact Kd.Q_nil _ _ _ _ _ | exact Kd.S_nil _ _ _ _ _, bl⟩
  ·obtain ⟨t288, A16, H⟩ := oB H
   try dsimp only at H
   obtain ⟨⟨t291, t292, t293, t296⟩, A17, H⟩ := oB H
   try dsimp only at H
   simp only [Option.some.injEq, Prod.mk.injEq] at H
   obtain ⟨rfl, rfl, rfl, rfl⟩ := H
   go_enter Try.func5, Try.ntmps5
   go_wp2_with (first | ((with_reducible refine gd 2 rfl ?_); refine bx 2 #[.int .i64 a0_0, .int .i64 a0_1, .slice A0_2 l0_2.length c0_2] 24 rfl rfl ?_; intro gb281 hg w18 hbox hb; have n_ := aC (bs hb) (aC hbox (aC (gz hg) (aE (gz hg)))); clear HB; obtain ⟨HB, BK281, GW281, GE281⟩ := n_; clear hb hbox hg) | ((with_reducible refine gd 3 rfl ?_); refine bx 3 #[.int .i64 a1] 3 rfl rfl ?_; intro gb282 hg w19 hbox hb; have n_ := aC (blk_below (bU BK281.out) hb) (aC (bs hb) (aC hbox (aC (gz hg) (aC (gz hg) (aC (gn hg (bU BK281.out)) (aE (gm hg (bU BK281.out)))))))); clear BK281 HB; obtain ⟨BK281, HB, BK282, GW282, GE282, NB281_282, NB282_281⟩ := n_; clear hb hbox hg) | ((with_reducible refine gd 4 rfl ?_); refine bx 4 #[.int .i64 0, .int .i64 0, .slice none 0 0] 24 rfl rfl ?_; intro gb283 hg w20 hbox hb; have n_ := aC (blk_below (bU BK281.out) hb) (aC (blk_below (bU BK282.out) hb) (aC (bs hb) (aC hbox (aC (gz hg) (aC (gz hg) (aC (gn hg (bU BK281.out)) (aC (gm hg (bU BK281.out)) (aC (gn hg (bU BK282.out)) (aE (gm hg (bU BK282.out))))))))))); clear BK281 BK282 HB; obtain ⟨BK281, BK282, HB, BK283, GW283, GE283, NB281_283, NB283_281, NB282_283, NB283_282⟩ := n_; clear hb hbox hg; have hnb21 := NB281_282.out; have hnc21 := NB282_281.out; have hnb22 := NB281_283.out; have hnc22 := NB283_281.out; obtain ⟨hcz23_0, hcz23_1, hcz23_2, hfz23_0, hfz23_1, hfz23_2⟩ := cz3f BK281.out) | ((with_reducible refine gf 13 rfl ?_); refine gL (some 10) rfl rfl Try.func13 rfl #[.agg #[.int .i64 a0_0, .int .i64 a0_1, .slice A0_2 l0_2.length c0_2]] rfl ?_; (with_reducible refine (shape_Components.calls k a0_0 a0_1 _ _ l0_2 t284 t287 _ ?side1 ?side2 A3.out).mono ?_); (case side1 => exact cU (Kd.C_below HR0_2.out HB.out)); (case side2 => exact HC0_2.out); rintro e w24 ⟨v285, rfl, ho0, hb⟩; refine ⟨_, rfl, ?_⟩; have n_ := aC (Kd.S_lower ho0 bz) (aC (blk_below (bU BK281.out) hb) (aC (blk_below (bU BK282.out) hb) (aC (blk_below (bU BK283.out) hb) (aE (bs hb))))); clear BK281 BK282 BK283 HB; obtain ⟨HO286, BK281, BK282, BK283, HB⟩ := n_; have hnb25 := NB282_283.out; have hnc25 := NB283_282.out; obtain ⟨hcz26_0, hfz26_0⟩ := cz1f BK282.out; obtain ⟨Ao27, co27, eo27⟩ := Kd.S_slice HO286.out; subst eo27) | ((with_reducible refine gf 14 rfl ?_); refine gL (some 23) rfl rfl Try.func14 rfl #[.slice Ao27 t284.length co27, .func (.func 15) #[] #[.pointer (some ⟨gb282, 0, none⟩)]] rfl ?_; (with_reducible refine (slices_DeleteFunc_15.calls k _ _ t284 gb282 a1 t288 _ w.heap.size (fun _ => True) ?side1 ?side3 A16.out).mono ?_); (case side1 => exact Kd.S_R (by (with_reducible repeat (first | apply Kd.S_alloc | apply Kd.S_drewN | apply Kd.S_drew)); exact HO286.out)); (case side3 => exact bU BK282.out); rintro e w28 ⟨v289, rfl, ho0, hg_⟩; refine ⟨_, rfl, ?_⟩; have n0_ := Aside0.mk trivial; have n1_ := Aside0.mk ho0; have n2_ := Aside0.mk (blk_grown (bU BK281.out) hg_ (Kd.S_ne HO286.out BK281.out (by decide))); have n3_ := Aside0.mk (blk_grown (bU BK282.out) hg_ (Kd.S_ne HO286.out BK282.out (by decide))); have n4_ := Aside0.mk (blk_grown (bU BK283.out) hg_ (Kd.S_ne HO286.out BK283.out (by decide))); have n5_ := Aside0.mk ((fun hb0_ => pw_below_grown hb0_ _ (below_size hb0_) hg_ (Kd.S_base HO286.out)) bl); clear HO286; clear BK281; clear BK282; clear BK283; clear HB; have HO286 := n0_; have HO290 := n1_; have BK281 := n2_; have BK282 := n3_; have BK283 := n4_; have HB := n5_; clear n0_ n1_ n2_ n3_ n4_ n5_; obtain ⟨hcz29_0, hcz29_1, hcz29_2, hfz29_0, hfz29_1, hfz29_2⟩ := cz3f BK281.out; obtain ⟨Ao30, co30, eo30⟩ := Kd.R_slice HO290.out; subst eo30) | ((with_reducible refine gf 17 rfl ?_); refine gL (some 29) rfl rfl Try.func17 rfl #[.int .i64 a0_0, .int .i64 a0_1, .slice Ao30 t288.length co30] rfl ?_; (with_reducible refine (shape_Draw.calls k a0_0 a0_1 _ _ t288 t291 t292 t293 t296 _ ?side1 ?side2 A17.out).mono ?_); (case side1 => exact cU (Kd.R_reads' HO290.out).2.2); (case side2 => exact (Kd.R_reads' HO290.out).2.1); rintro e w31 ⟨v294, rfl, ho0, hb⟩; refine ⟨_, rfl, ?_⟩; have n0_ := Aside0.mk trivial; have n1_ := Aside0.mk trivial; have n2_ := Aside0.mk (Kd.R_lower ho0 bz); have n3_ := Aside0.mk (blk_below (bU BK281.out) hb); have n4_ := Aside0.mk (blk_below (bU BK282.out) hb); have n5_ := Aside0.mk (blk_below (bU BK283.out) hb); have n6_ := Aside0.mk (bs hb); clear HO286; clear HO290; clear BK281; clear BK282; clear BK283; clear HB; have HO286 := n0_; have HO290 := n1_; have HO295 := n2_; have BK281 := n3_; have BK282 := n4_; have BK283 := n5_; have HB := n6_; clear n0_ n1_ n2_ n3_ n4_ n5_ n6_; obtain ⟨hcz32_0, hcz32_1, hcz32_2, hfz32_0, hfz32_1, hfz32_2⟩ := cz3f BK283.out; obtain ⟨Ao33, co33, eo33⟩ := Kd.R_slice HO295.out; subst eo33))
   refine bodyPost_ret (results_ct rfl _ _ gb283 24 #[.int .i64 t291, .int .i64 t292, .slice Ao33 t293.length co33] (0, 0) _ rfl (by (with_reducible repeat (first | refine blk_drewN ?_ _ | refine blk_drew ?_ | refine blk_alloc ?_ _)); refine blk_put (cs := #[.int .i64 t291, .int .i64 t292, .slice none 0 0]) ?_ 2 _ rfl; (with_reducible repeat (first | refine blk_drewN ?_ _ | refine blk_drew ?_ | refine blk_alloc ?_ _)); refine blk_put (cs := #[.int .i64 t291, .int .i64 0, .slice none 0 0]) ?_ 1 _ rfl; (with_reducible repeat (first | refine blk_drewN ?_ _ | refine blk_drew ?_ | refine blk_alloc ?_ _)); refine blk_put (cs := #[.int .i64 0, .int .i64 0, .slice none 0 0]) ?_ 0 _ rfl; exact bU BK283.out) Try.underlying24 rfl (by kernel_rfl)) rfl ?_
   exact ⟨_, re, rU (Kd.R_mono (Kd.R_far (p := ⟨gb283, 2, none⟩) (Kd.R_far (p := ⟨gb283, 1, none⟩) (Kd.R_far (p := ⟨gb283, 0, none⟩) (Kd.R_types HO295.out BK283.out (by decide)) (fun _ hk => hk.2) (.int .i64 t291)) (fun _ hk => hk.2) (.int .i64 t292)) (fun _ hk => hk.2) (.slice Ao33 t293.length co33)) (fun _ hk => trivial)), bl⟩
 ·simp only [Option.some.injEq, Prod.mk.injEq] at H
  obtain ⟨rfl, rfl, rfl, rfl⟩ := H
  go_enter Try.func5, Try.ntmps5
  go_wp2_with (first | ((with_reducible refine gd 2 rfl ?_); refine bx 2 #[.int .i64 a0_0, .int .i64 a0_1, .slice A0_2 l0_2.length c0_2] 24 rfl rfl ?_; intro gb281 hg w34 hbox hb; have n_ := aC (bs hb) (aC hbox (aC (gz hg) (aE (gz hg)))); clear HB; obtain ⟨HB, BK281, GW281, GE281⟩ := n_; clear hb hbox hg) | ((with_reducible refine gd 3 rfl ?_); refine bx 3 #[.int .i64 a1] 3 rfl rfl ?_; intro gb282 hg w35 hbox hb; have n_ := aC (blk_below (bU BK281.out) hb) (aC (bs hb) (aC hbox (aC (gz hg) (aC (gz hg) (aC (gn hg (bU BK281.out)) (aE (gm hg (bU BK281.out)))))))); clear BK281 HB; obtain ⟨BK281, HB, BK282, GW282, GE282, NB281_282, NB282_281⟩ := n_; clear hb hbox hg) | ((with_reducible refine gd 4 rfl ?_); refine bx 4 #[.int .i64 0, .int .i64 0, .slice none 0 0] 24 rfl rfl ?_; intro gb283 hg w36 hbox hb; have n_ := aC (blk_below (bU BK281.out) hb) (aC (blk_below (bU BK282.out) hb) (aC (bs hb) (aC hbox (aC (gz hg) (aC (gz hg) (aC (gn hg (bU BK281.out)) (aC (gm hg (bU BK281.out)) (aC (gn hg (bU BK282.out)) (aE (gm hg (bU BK282.out))))))))))); clear BK281 BK282 HB; obtain ⟨BK281, BK282, HB, BK283, GW283, GE283, NB281_283, NB283_281, NB282_283, NB283_282⟩ := n_; clear hb hbox hg; have hnb37 := NB281_282.out; have hnc37 := NB282_281.out; have hnb38 := NB281_283.out; have hnc38 := NB283_281.out; obtain ⟨hcz39_0, hcz39_1, hcz39_2, hfz39_0, hfz39_1, hfz39_2⟩ := cz3f BK281.out) | ((with_reducible refine gf 13 rfl ?_); refine gL (some 10) rfl rfl Try.func13 rfl #[.agg #[.int .i64 a0_0, .int .i64 a0_1, .slice A0_2 l0_2.length c0_2]] rfl ?_; (with_reducible refine (shape_Components.calls k a0_0 a0_1 _ _ l0_2 t284 t287 _ ?side1 ?side2 A3.out).mono ?_); (case side1 => exact cU (Kd.C_below HR0_2.out HB.out)); (case side2 => exact HC0_2.out); rintro e w40 ⟨v285, rfl, ho0, hb⟩; refine ⟨_, rfl, ?_⟩; have n_ := aC (Kd.S_lower ho0 bz) (aC (blk_below (bU BK281.out) hb) (aC (blk_below (bU BK282.out) hb) (aC (blk_below (bU BK283.out) hb) (aE (bs hb))))); clear BK281 BK282 BK283 HB; obtain ⟨HO286, BK281, BK282, BK283, HB⟩ := n_; have hnb41 := NB283_282.out; have hnc41 := NB282_283.out; obtain ⟨hcz42_0, hcz42_1, hcz42_2, hfz42_0, hfz42_1, hfz42_2⟩ := cz3f BK283.out))
  refine bodyPost_ret (results_ct rfl _ _ gb283 24 #[.int .i64 0, .int .i64 0, .slice none 0 0] (0, 0) _ rfl (by (with_reducible repeat (first | refine blk_drewN ?_ _ | refine blk_drew ?_ | refine blk_alloc ?_ _)); refine blk_put (cs := #[.int .i64 0, .int .i64 0, .slice none 0 0]) ?_ 2 _ rfl; (with_reducible repeat (first | refine blk_drewN ?_ _ | refine blk_drew ?_ | refine blk_alloc ?_ _)); refine blk_put (cs := #[.int .i64 0, .int .i64 0, .slice none 0 0]) ?_ 1 _ rfl; (with_reducible repeat (first | refine blk_drewN ?_ _ | refine blk_drew ?_ | refine blk_alloc ?_ _)); refine blk_put (cs := #[.int .i64 0, .int .i64 0, .slice none 0 0]) ?_ 0 _ rfl; exact bU BK283.out) Try.underlying24 rfl (by kernel_rfl)) rfl ?_
  exact ⟨_, re, by first | exact Kd.R_nil _ _ _ _ _ | exact Kd.N_nil _ _ _ _ _ | exact Kd.V_nil _ _ _ _ _ | exact Kd.Q_nil _ _ _ _ _ | exact Kd.S_nil _ _ _ _ _, bl⟩
def incunableref05_Sides.f (a0 : Int) (a1 : Int) : Option (Bool) := if a0 ≥ 0 then (if a1 ≥ 0 then (if a0 ≤ 200 then (if a1 ≤ 200 then (some (decide ((wrap64 (a0 * a1)) ≤ 8192))) else (some false)) else (some false)) else (some false)) else (some false)
set_option maxHeartbeats 8000000 in
set_option maxRecDepth 100000 in
theorem incunableref05_Sides.calls (a0 : Int) (a1 : Int) (r : Bool) (w : World) (h : incunableref05_Sides.f a0 a1 = some r) :
  Calls Try.prog 32 #[.int .i64 a0, .int .i64 a1] w fun e w' => e = .returned (.bool r) ∧ Drawn0 w w' := by
 have H := h
 unfold incunableref05_Sides.f at H
 clear h
 rcases iL H with H1 | H1 <;> clear H <;> obtain ⟨H, c3b0⟩ := H1
 ·rcases iL H with H1 | H1 <;> clear H <;> obtain ⟨H, c4b0⟩ := H1
  ·rcases iL H with H1 | H1 <;> clear H <;> obtain ⟨H, c5b0⟩ := H1
   ·rcases iL H with H1 | H1 <;> clear H <;> obtain ⟨H, c6b0⟩ := H1
    ·obtain rfl := Option.some.inj H
     go_enter Try.func32, Try.ntmps32
     go_wp2
     go_ret
     exact ⟨by first | rfl | (simp; done) | (simp [*]; done), by repeat (first | exact Drawn0.refl _ | apply Drawn0.step)⟩
    ·obtain rfl := Option.some.inj H
     go_enter Try.func32, Try.ntmps32
     go_wp2
     go_ret
     exact ⟨by first | rfl | (simp; done) | (simp [*]; done), by repeat (first | exact Drawn0.refl _ | apply Drawn0.step)⟩
   ·obtain rfl := Option.some.inj H
    go_enter Try.func32, Try.ntmps32
    go_wp2
    go_ret
    exact ⟨by first | rfl | (simp; done) | (simp [*]; done), by repeat (first | exact Drawn0.refl _ | apply Drawn0.step)⟩
  ·obtain rfl := Option.some.inj H
   go_enter Try.func32, Try.ntmps32
   go_wp2
   go_ret
   exact ⟨by first | rfl | (simp; done) | (simp [*]; done), by repeat (first | exact Drawn0.refl _ | apply Drawn0.step)⟩
 ·obtain rfl := Option.some.inj H
  go_enter Try.func32, Try.ntmps32
  go_wp2
  go_ret
  exact ⟨by first | rfl | (simp; done) | (simp [*]; done), by repeat (first | exact Drawn0.refl _ | apply Drawn0.step)⟩
end Go.Proofs.Ytnnbfkmmjclhaaa.PScanSpecks
