-- printed (wip/tools/myprint.py)
import Derived.Test.YtnnbfkmmjclhaaaPScanSpecksx0
import Derived.Test.YtnnbfkmmjclhaaaPScanSpecksx1
import Derived.Test.YtnnbfkmmjclhaaaPScanSpecksx7
import Derived.Test.YtnnbfkmmjclhaaaPScanSpecksx11
import Derived.Test.YtnnbfkmmjclhaaaPScanSpecksx13
import Derived.Test.YtnnbfkmmjclhaaaPScanSpecksx14
namespace Go.Proofs.Ytnnbfkmmjclhaaa.PScanSpecks
open Go.RowKit Go.Proofs.YtnnbfkmmjclhaaaW.PrintWords Go.Proofs.YtnnbfkmmjclhaaaW.PrintLast Go.Proofs.YtnnbfkmmjclhaaaW.PrintMore
attribute [local go_sem] max2_int min2_int max_two min_two max_three min_three max_four min_four
set_option linter.unusedVariables false
set_option linter.unusedSimpArgs false
mutual
def incunablelaw29_ScanSpecks.j0 : Nat → Int → Int → Bool → Int → Int → List Int → Int → Int → List Int → Option (Bool)
 | 0, _, _, _, _, _, _, _, _, _ => none
 | k + 1, x1, x6, x41, x420000, x420001, x420002, x428000, x428001, x428002 => if x41 = true then (some false) else (if x6 = 0 then ((scan_Despeckle.f k x428000 x428001 x428002 x1).bind fun bt437 => (if bt437.2.2.2 = 0 then ((incunableref05_Same.f bt437.1 bt437.2.1 bt437.2.2.1 x428000 x428001 x428002).bind fun t444 => (incunablelaw29_ScanSpecks.j1 k x1 (!t444) x420000 x420001 x420002 x428000 x428001 x428002)) else (incunablelaw29_ScanSpecks.j1 k x1 true x420000 x420001 x420002 x428000 x428001 x428002))) else ((incunablelaw29_Sane.f k).bind fun t436 => (some t436)))
def incunablelaw29_ScanSpecks.j1 : Nat → Int → Bool → Int → Int → List Int → Int → Int → List Int → Option (Bool)
 | 0, _, _, _, _, _, _, _, _ => none
 | k + 1, x1, x58, x420000, x420001, x420002, x428000, x428001, x428002 => if x58 = true then (some false) else ((incunableref15_Components.f k x420000 x420001 x420002).bind fun bt445 => ((incunableref15_Components.f k x428000 x428001 x428002).bind fun bt449 => (incunablelaw29_ScanSpecks.l0 k x1 bt445.1 bt449.1 ([] : List (S35)) 0)))
def incunablelaw29_ScanSpecks.l0 : Nat → Int → List (S35) → List (S35) → List (S35) → Int → Option (Bool)
 | 0, _, _, _, _, _ => none
 | k + 1, x1, x10, x12, x14, x15 => if x15 < (x10.length : Int) then (if 0 ≤ x15 then ((incunableref05_Blacks.f k ((rd_T35 x10 x15).f0.f0) ((rd_T35 x10 x15).f0.f1) ((rd_T35 x10 x15).f0.f2)).bind fun t454 => (if t454 > x1 then (if x14.length < 2513169434916 then (incunablelaw29_ScanSpecks.l0 k x1 x10 x12 (x14 ++ [(⟨(⟨(rd_T35 x10 x15).f0.f0, (rd_T35 x10 x15).f0.f1, (rd_T35 x10 x15).f0.f2⟩ : S24), (rd_T35 x10 x15).f1, (rd_T35 x10 x15).f2⟩ : S35)]) (wrap64 (x15 + 1))) else (none)) else (incunablelaw29_ScanSpecks.l0 k x1 x10 x12 x14 (wrap64 (x15 + 1))))) else (none)) else ((incunableref15_SamePlaced.f k x12 x14).bind fun t459 => (if t459 = true then ((incunablelaw29_Sane.f k).bind fun t460 => (some t460)) else (some false)))
end
def incunablelaw29_ScanSpecks.f (k : Nat) (a0_0 : Int) (a0_1 : Int) (l0_2 : List Int) (a1 : Int) : Option (Bool) := if (l0_2.length : Int) > 900 then ((incunablelaw29_Sane.f k).bind fun t420 => (some t420)) else ((scan_Despeckle.f k a0_0 a0_1 l0_2 a1).bind fun bt421 => ((incunableref29_Despeckle.f k a0_0 a0_1 l0_2 a1).bind fun bt428 => (if bt421.2.2.2 = bt428.2.2.2 then ((incunableref05_Same.f bt421.1 bt421.2.1 bt421.2.2.1 bt428.1 bt428.2.1 bt428.2.2.1).bind fun t435 => (incunablelaw29_ScanSpecks.j0 k a1 bt421.2.2.2 (!t435) a0_0 a0_1 l0_2 bt421.1 bt421.2.1 bt421.2.2.1)) else (incunablelaw29_ScanSpecks.j0 k a1 bt421.2.2.2 true a0_0 a0_1 l0_2 bt421.1 bt421.2.1 bt421.2.2.1))))
theorem incunablelaw29_ScanSpecks.mono_l : ∀ k, (∀ y0 y1 y2 y3 y4 y5 y6 y7 y8, LeO (incunablelaw29_ScanSpecks.j0 k y0 y1 y2 y3 y4 y5 y6 y7 y8) (incunablelaw29_ScanSpecks.j0 (k + 1) y0 y1 y2 y3 y4 y5 y6 y7 y8)) ∧ (∀ y0 y1 y2 y3 y4 y5 y6 y7, LeO (incunablelaw29_ScanSpecks.j1 k y0 y1 y2 y3 y4 y5 y6 y7) (incunablelaw29_ScanSpecks.j1 (k + 1) y0 y1 y2 y3 y4 y5 y6 y7)) ∧ (∀ y0 y1 y2 y3 y4, LeO (incunablelaw29_ScanSpecks.l0 k y0 y1 y2 y3 y4) (incunablelaw29_ScanSpecks.l0 (k + 1) y0 y1 y2 y3 y4))
 | 0 => ⟨fun _ _ _ _ _ _ _ _ _ r h => by simp [incunablelaw29_ScanSpecks.j0] at h, fun _ _ _ _ _ _ _ _ r h => by simp [incunablelaw29_ScanSpecks.j1] at h, fun _ _ _ _ _ r h => by simp [incunablelaw29_ScanSpecks.l0] at h⟩
 | k + 1 => by
  obtain ⟨ih0, ih1, ih2⟩ := incunablelaw29_ScanSpecks.mono_l k
  refine ⟨?_, ?_, ?_⟩
  ·intro y0 y1 y2 y3 y4 y5 y6 y7 y8
   unfold incunablelaw29_ScanSpecks.j0
   repeat' first
   | (with_reducible exact ih0 _ _ _ _ _ _ _ _ _)
   | (with_reducible exact ih1 _ _ _ _ _ _ _ _)
   | (with_reducible exact ih2 _ _ _ _ _)
   | (with_reducible exact incunablelaw29_Sane.mono _)
   | (with_reducible exact incunableref05_Blacks.mono _ _ _ _)
   | (with_reducible exact incunableref15_Components.mono _ _ _ _)
   | (with_reducible exact incunableref15_SamePlaced.mono _ _ _)
   | (with_reducible exact incunableref29_Despeckle.mono _ _ _ _ _)
   | (with_reducible exact scan_Despeckle.mono _ _ _ _ _)
   | (with_reducible first | exact LeO.refl _ | exact LeO.none _ | refine LeO.ite ?_ ?_ | refine LeO.bind ?_ (fun _ => ?_))
  ·intro y0 y1 y2 y3 y4 y5 y6 y7
   unfold incunablelaw29_ScanSpecks.j1
   repeat' first
   | (with_reducible exact ih0 _ _ _ _ _ _ _ _ _)
   | (with_reducible exact ih1 _ _ _ _ _ _ _ _)
   | (with_reducible exact ih2 _ _ _ _ _)
   | (with_reducible exact incunablelaw29_Sane.mono _)
   | (with_reducible exact incunableref05_Blacks.mono _ _ _ _)
   | (with_reducible exact incunableref15_Components.mono _ _ _ _)
   | (with_reducible exact incunableref15_SamePlaced.mono _ _ _)
   | (with_reducible exact incunableref29_Despeckle.mono _ _ _ _ _)
   | (with_reducible exact scan_Despeckle.mono _ _ _ _ _)
   | (with_reducible first | exact LeO.refl _ | exact LeO.none _ | refine LeO.ite ?_ ?_ | refine LeO.bind ?_ (fun _ => ?_))
  ·intro y0 y1 y2 y3 y4
   unfold incunablelaw29_ScanSpecks.l0
   repeat' first
   | (with_reducible exact ih0 _ _ _ _ _ _ _ _ _)
   | (with_reducible exact ih1 _ _ _ _ _ _ _ _)
   | (with_reducible exact ih2 _ _ _ _ _)
   | (with_reducible exact incunablelaw29_Sane.mono _)
   | (with_reducible exact incunableref05_Blacks.mono _ _ _ _)
   | (with_reducible exact incunableref15_Components.mono _ _ _ _)
   | (with_reducible exact incunableref15_SamePlaced.mono _ _ _)
   | (with_reducible exact incunableref29_Despeckle.mono _ _ _ _ _)
   | (with_reducible exact scan_Despeckle.mono _ _ _ _ _)
   | (with_reducible first | exact LeO.refl _ | exact LeO.none _ | refine LeO.ite ?_ ?_ | refine LeO.bind ?_ (fun _ => ?_))
theorem incunablelaw29_ScanSpecks.mono : ∀ a0 a1 a2 a3 k, LeO (incunablelaw29_ScanSpecks.f k a0 a1 a2 a3) (incunablelaw29_ScanSpecks.f (k + 1) a0 a1 a2 a3) := by
 intro a0 a1 a2 a3 k
 obtain ⟨ih0, ih1, ih2⟩ := incunablelaw29_ScanSpecks.mono_l k
 unfold incunablelaw29_ScanSpecks.f
 repeat' first
   | (with_reducible exact ih0 _ _ _ _ _ _ _ _ _)
   | (with_reducible exact ih1 _ _ _ _ _ _ _ _)
   | (with_reducible exact ih2 _ _ _ _ _)
   | (with_reducible exact incunablelaw29_Sane.mono _)
   | (with_reducible exact incunableref05_Blacks.mono _ _ _ _)
   | (with_reducible exact incunableref15_Components.mono _ _ _ _)
   | (with_reducible exact incunableref15_SamePlaced.mono _ _ _)
   | (with_reducible exact incunableref29_Despeckle.mono _ _ _ _ _)
   | (with_reducible exact scan_Despeckle.mono _ _ _ _ _)
   | (with_reducible first | exact LeO.refl _ | exact LeO.none _ | refine LeO.ite ?_ ?_ | refine LeO.bind ?_ (fun _ => ?_))
set_option maxHeartbeats 8000000 in
set_option maxRecDepth 100000 in
theorem incunablelaw29_ScanSpecks.calls (k : Nat) (a0_0 : Int) (a0_1 : Int) (A0_2 : Option Addr) (c0_2 : Nat) (l0_2 : List Int) (a1 : Int) (r : Bool) (w : World) (hr0_2 : Kd.C (Kd.int .u8) w A0_2 l0_2.length l0_2) (hc0_2 : l0_2.length ≤ c0_2) (h : incunablelaw29_ScanSpecks.f k a0_0 a0_1 l0_2 a1 = some r) (hr_ : r = true) :
  Calls Try.prog 3 #[.agg #[.int .i64 a0_0, .int .i64 a0_1, .slice A0_2 l0_2.length c0_2], .int .i64 a1] w fun e w' => e = .returned (.bool r) ∧ Below w.heap.size w w' := by
 have HR_ := Aside0.mk hr_
 clear hr_
 have hu24 := Try.underlying24
 have hu35 := Try.underlying35
 have HR0_2 := Aside0.mk hr0_2
 have HC0_2 := Aside0.mk hc0_2
 clear hr0_2 hc0_2
 have HB := Aside0.mk (Below.refl w.heap.size w)
 have H := h
 unfold incunablelaw29_ScanSpecks.f at H
 clear h
 by_cases c3 : (l0_2.length : Int) > 900
 ·rw [if_pos c3] at H
  have c3b0 := decide_eq_true c3
  have c3b1 : decide (900 < l0_2.length) = true := decide_eq_true (by omega)
  clear c3
  obtain ⟨t420, A4, H⟩ := oB H
  try dsimp only at H
  obtain rfl := Option.some.inj H
  go_enter Try.func3, Try.ntmps3
  go_wp2_with (first | ((with_reducible refine gd 2 rfl ?_); refine bx 2 #[.int .i64 a0_0, .int .i64 a0_1, .slice A0_2 l0_2.length c0_2] 24 rfl rfl ?_; intro gb419 hg w5 hbox hb; have n_ := aC (bs hb) (aC hbox (aC (gz hg) (aE (gz hg)))); clear HB; obtain ⟨HB, BK419, GW419, GE419⟩ := n_; clear hb hbox hg; obtain ⟨hcz6_0, hcz6_1, hcz6_2, hfz6_0, hfz6_1, hfz6_2⟩ := cz3f BK419.out) | ((with_reducible refine gf 4 rfl ?_); refine gL (some 20) rfl rfl Try.func4 rfl #[] rfl ?_; (with_reducible refine (incunablelaw29_Sane.calls k  t420 _ A4.out).mono ?_); rintro e w7 ⟨rfl, hb⟩; refine ⟨_, rfl, ?_⟩; have n_ := aC (blk_below (bU BK419.out) hb) (aE (bs hb)); clear BK419 HB; obtain ⟨BK419, HB⟩ := n_))
  go_ret
  exact ⟨re, bl⟩
 ·rw [if_neg c3] at H
  have c3b0 := decide_eq_false c3
  have c3b1 : decide (900 < l0_2.length) = false := decide_eq_false (by omega)
  clear c3
  obtain ⟨⟨t421, t422, t423, t426⟩, A8, H⟩ := oB H
  try dsimp only at H
  obtain ⟨⟨t428, t429, t430, t433⟩, A9, H⟩ := oB H
  try dsimp only at H
  have HC10 := Aside0.mk H
  clear H
  go_enter Try.func3, Try.ntmps3
  go_upto_region 5 with (first | ((with_reducible refine gd 2 rfl ?_); refine bx 2 #[.int .i64 a0_0, .int .i64 a0_1, .slice A0_2 l0_2.length c0_2] 24 rfl rfl ?_; intro gb419 hg w11 hbox hb; have n_ := aC (bs hb) (aC hbox (aC (gz hg) (aE (gz hg)))); clear HB; obtain ⟨HB, BK419, GW419, GE419⟩ := n_; clear hb hbox hg; obtain ⟨hcz12_0, hcz12_1, hcz12_2, hfz12_0, hfz12_1, hfz12_2⟩ := cz3f BK419.out) | ((with_reducible refine gf 5 rfl ?_); refine gL (some 24) rfl rfl Try.func5 rfl #[.agg #[.int .i64 a0_0, .int .i64 a0_1, .slice A0_2 l0_2.length c0_2], .int .i64 a1] rfl ?_; (with_reducible refine (scan_Despeckle.calls k a0_0 a0_1 _ _ l0_2 a1 t421 t422 t423 t426 _ ?side1 ?side2 A8.out).mono ?_); (case side1 => exact cU (Kd.C_below HR0_2.out HB.out)); (case side2 => exact HC0_2.out); rintro e w13 ⟨v424, rfl, ho0, hb⟩; refine ⟨_, rfl, ?_⟩; have n_ := aC (Kd.R_lower ho0 bz) (aC (blk_below (bU BK419.out) hb) (aE (bs hb))); clear BK419 HB; obtain ⟨HO425, BK419, HB⟩ := n_) | ((with_reducible refine gd 5 rfl ?_); refine bx 5 #[.int .i64 0, .int .i64 0, .slice none 0 0] 24 rfl rfl ?_; intro gb427 hg w14 hbox hb; have n_ := aC (Kd.R_below (rU HO425.out) hb) (aC (blk_below (bU BK419.out) hb) (aC (bs hb) (aC hbox (aC (gz hg) (aC (gz hg) (aC (gn hg (bU BK419.out)) (aE (gm hg (bU BK419.out))))))))); clear HO425 BK419 HB; obtain ⟨HO425, BK419, HB, BK427, GW427, GE427, NB419_427, NB427_419⟩ := n_; clear hb hbox hg; have hnb15 := NB427_419.out; have hnc15 := NB419_427.out; obtain ⟨hcz16_0, hcz16_1, hcz16_2, hfz16_0, hfz16_1, hfz16_2⟩ := cz3f BK427.out; obtain ⟨Ao17, co17, eo17⟩ := Kd.R_slice HO425.out; subst eo17; obtain ⟨hcz18_0, hcz18_1, hcz18_2, hfz18_0, hfz18_1, hfz18_2⟩ := cz3f BK419.out) | ((with_reducible refine gf 6 rfl ?_); refine gL (some 30) rfl rfl Try.func6 rfl #[.agg #[.int .i64 a0_0, .int .i64 a0_1, .slice A0_2 l0_2.length c0_2], .int .i64 a1] rfl ?_; (with_reducible refine (incunableref29_Despeckle.calls k a0_0 a0_1 _ _ l0_2 a1 t428 t429 t430 t433 _ ?side1 ?side2 A9.out).mono ?_); (case side1 => exact Kd.C_below HR0_2.out bl); (case side2 => exact HC0_2.out); rintro e w19 ⟨v431, rfl, ho0, hb⟩; refine ⟨_, rfl, ?_⟩; have n_ := aC (Kd.R_elder' (rU (Kd.R_mono (Kd.R_far (p := ⟨gb427, 2, none⟩) (Kd.R_far (p := ⟨gb427, 1, none⟩) (Kd.R_far (p := ⟨gb427, 0, none⟩) (Kd.R_types HO425.out BK427.out (by decide)) (fun _ hk => hk.2) (.int .i64 t421)) (fun _ hk => hk.2) (.int .i64 t422)) (fun _ hk => hk.2) (.slice Ao17 t423.length co17)) (fun _ h_ => h_.1))) (Kd.R_base ho0) hb) (aC (Kd.R_lower (Kd.R_new' ho0 (Kd.R_lt (rU (Kd.R_mono (Kd.R_far (p := ⟨gb427, 2, none⟩) (Kd.R_far (p := ⟨gb427, 1, none⟩) (Kd.R_far (p := ⟨gb427, 0, none⟩) (Kd.R_types HO425.out BK427.out (by decide)) (fun _ hk => hk.2) (.int .i64 t421)) (fun _ hk => hk.2) (.int .i64 t422)) (fun _ hk => hk.2) (.slice Ao17 t423.length co17)) (fun _ h_ => h_.1))))) bz) (aC (blk_below (g := gb419) (o := .cells #[.int .i64 a0_0, .int .i64 a0_1, .slice A0_2 l0_2.length c0_2] 24 (0, 0)) (by refine bF ?_ ?_; exact NB419_427.out; refine bF ?_ ?_; exact NB419_427.out; refine bF ?_ ?_; exact NB419_427.out; exact bU BK419.out) hb) (aC (blk_below (g := gb427) (o := .cells #[.int .i64 t421, .int .i64 t422, .slice Ao17 t423.length co17] 24 (0, 0)) (by (with_reducible repeat (first | refine blk_drewN ?_ _ | refine blk_drew ?_ | refine blk_alloc ?_ _)); refine blk_put (cs := #[.int .i64 t421, .int .i64 t422, .slice none 0 0]) ?_ 2 _ rfl; (with_reducible repeat (first | refine blk_drewN ?_ _ | refine blk_drew ?_ | refine blk_alloc ?_ _)); refine blk_put (cs := #[.int .i64 t421, .int .i64 0, .slice none 0 0]) ?_ 1 _ rfl; (with_reducible repeat (first | refine blk_drewN ?_ _ | refine blk_drew ?_ | refine blk_alloc ?_ _)); refine blk_put (cs := #[.int .i64 0, .int .i64 0, .slice none 0 0]) ?_ 0 _ rfl; exact bU BK427.out) hb) (aE (bs hb))))); clear HO425 BK419 BK427 HB; obtain ⟨HO425, HO432, BK419, BK427, HB⟩ := n_) | ((with_reducible refine gd 7 rfl ?_); refine bx 7 #[.int .i64 0, .int .i64 0, .slice none 0 0] 24 rfl rfl ?_; intro gb434 hg w20 hbox hb; have n_ := aC (Kd.R_below (rU HO425.out) hb) (aC (Kd.R_below (rU HO432.out) hb) (aC (blk_below (bU BK419.out) hb) (aC (blk_below (bU BK427.out) hb) (aC (bs hb) (aC hbox (aC (gz hg) (aC (gz hg) (aC (gn hg (bU BK419.out)) (aC (gm hg (bU BK419.out)) (aC (gn hg (bU BK427.out)) (aE (gm hg (bU BK427.out))))))))))))); clear HO425 HO432 BK419 BK427 HB; obtain ⟨HO425, HO432, BK419, BK427, HB, BK434, GW434, GE434, NB419_434, NB434_419, NB427_434, NB434_427⟩ := n_; clear hb hbox hg; have hnb21 := NB434_419.out; have hnc21 := NB419_434.out; have hnb22 := NB434_427.out; have hnc22 := NB427_434.out; obtain ⟨hcz23_0, hcz23_1, hcz23_2, hfz23_0, hfz23_1, hfz23_2⟩ := cz3f BK434.out; obtain ⟨Ao24, co24, eo24⟩ := Kd.R_slice HO432.out; subst eo24))
  (try simp only [Act.put, List.setIfInBounds_toArray, List.set_cons_zero, List.set_cons_succ])
  go_cut [41] (fun v41 wc => ∃ (kq : Nat) (x41_9 : Bool), v41 = .bool x41_9 ∧ Aside0 (incunablelaw29_ScanSpecks.j0 kq a1 t426 x41_9 a0_0 a0_1 l0_2 t421 t422 t423 = some r) ∧ Aside0 (kq ≤ k) ∧ Aside0 (Kd.R (Kd.int .u8) 5 wc w.heap.size (fun k_ => some k_ ≠ ((.slice Ao24 t430.length co24) : Value).ownBlock) (.slice Ao17 t423.length co17) t423) ∧ Aside0 (Kd.R (Kd.int .u8) 5 wc w.heap.size (fun k_ => some k_ ≠ ((.slice Ao17 t423.length co17) : Value).ownBlock) (.slice Ao24 t430.length co24) t430) ∧ Aside0 (wc.heap[gb419]? = some (.cells #[.int .i64 a0_0, .int .i64 a0_1, (.slice A0_2 l0_2.length c0_2)] 24 (0, 0))) ∧ Aside0 (wc.heap[gb427]? = some (.cells #[.int .i64 t421, .int .i64 t422, (.slice Ao17 t423.length co17)] 24 (0, 0))) ∧ Aside0 (wc.heap[gb434]? = some (.cells #[.int .i64 t428, .int .i64 t429, (.slice Ao24 t430.length co24)] 24 (0, 0))) ∧ Aside0 (Below w.heap.size w wc))
  case first =>
   have H := HC10.out
   clear HC10
   rcases iE H with H1 | H1 <;> clear H <;> obtain ⟨H, c25b0, c25b1, c25⟩ := H1
   ·(first | rw [c25b0] | (simp only [i64_w, i32_w]; rw [c25b0]) | skip)
    obtain ⟨t435, A26, H⟩ := oB H
    try dsimp only at H
    have H' := Aside0.mk H
    clear H
    have hnb27 := NB427_419.out
    have hnc27 := NB419_427.out
    have hnb28 := NB427_434.out
    have hnc28 := NB434_427.out
    obtain ⟨hcz29_0, hcz29_1, hcz29_2, hfz29_0, hfz29_1, hfz29_2⟩ := cz3f BK427.out
    have hnb30 := NB434_419.out
    have hnc30 := NB419_434.out
    obtain ⟨hcz31_0, hcz31_1, hcz31_2, hfz31_0, hfz31_1, hfz31_2⟩ := cz3f BK434.out
    go_wp2_with (first | (go_at_call 7; (with_reducible refine (incunableref05_Same.calls t421 t422 _ _ t423 t428 t429 _ _ t430 t435 _ ?side1 ?side2 ?side3 ?side4 A26.out).mono ?_); (case side1 => refine (Kd.R_reads' (e := 5) (base := w.heap.size) (ok := fun k_ => (True ∧ some k_ ≠ (.slice Ao24 t430.length co24 : Value).ownBlock)) (n := t423.length) (c := co17) ?_).2.2; exact (rU (Kd.R_mono (Kd.R_far (p := ⟨gb434, 2, none⟩) (Kd.R_far (p := ⟨gb434, 1, none⟩) (Kd.R_far (p := ⟨gb434, 0, none⟩) (Kd.R_types HO425.out BK434.out (by decide)) (fun _ hk => hk.2) (.int .i64 t428)) (fun _ hk => hk.2) (.int .i64 t429)) (fun _ hk => hk.2) (.slice Ao24 t430.length co24)) (fun _ h_ => h_.1)))); (case side2 => exact (Kd.R_reads' HO425.out).2.1); (case side3 => refine (Kd.R_reads' (e := 5) (base := w.heap.size) (ok := fun k_ => (True ∧ some k_ ≠ (.slice Ao17 t423.length co17 : Value).ownBlock)) (n := t430.length) (c := co24) ?_).2.2; exact (rU (Kd.R_mono (Kd.R_far (p := ⟨gb434, 2, none⟩) (Kd.R_far (p := ⟨gb434, 1, none⟩) (Kd.R_far (p := ⟨gb434, 0, none⟩) (Kd.R_types HO432.out BK434.out (by decide)) (fun _ hk => hk.2) (.int .i64 t428)) (fun _ hk => hk.2) (.int .i64 t429)) (fun _ hk => hk.2) (.slice Ao24 t430.length co24)) (fun _ h_ => h_.1)))); (case side4 => exact (Kd.R_reads' HO432.out).2.1); rintro e w32 ⟨rfl, hb⟩; have n_ := aC (Kd.R_below (rU (Kd.R_mono (Kd.R_far (p := ⟨gb434, 2, none⟩) (Kd.R_far (p := ⟨gb434, 1, none⟩) (Kd.R_far (p := ⟨gb434, 0, none⟩) (Kd.R_types HO425.out BK434.out (by decide)) (fun _ hk => hk.2) (.int .i64 t428)) (fun _ hk => hk.2) (.int .i64 t429)) (fun _ hk => hk.2) (.slice Ao24 t430.length co24)) (fun _ h_ => h_.1))) hb) (aC (Kd.R_below (rU (Kd.R_mono (Kd.R_far (p := ⟨gb434, 2, none⟩) (Kd.R_far (p := ⟨gb434, 1, none⟩) (Kd.R_far (p := ⟨gb434, 0, none⟩) (Kd.R_types HO432.out BK434.out (by decide)) (fun _ hk => hk.2) (.int .i64 t428)) (fun _ hk => hk.2) (.int .i64 t429)) (fun _ hk => hk.2) (.slice Ao24 t430.length co24)) (fun _ h_ => h_.1))) hb) (aC (blk_below (g := gb419) (o := .cells #[.int .i64 a0_0, .int .i64 a0_1, .slice A0_2 l0_2.length c0_2] 24 (0, 0)) (by refine bF ?_ ?_; exact NB419_434.out; refine bF ?_ ?_; exact NB419_434.out; refine bF ?_ ?_; exact NB419_434.out; exact bU BK419.out) hb) (aC (blk_below (g := gb427) (o := .cells #[.int .i64 t421, .int .i64 t422, .slice Ao17 t423.length co17] 24 (0, 0)) (by refine bF ?_ ?_; exact NB427_434.out; refine bF ?_ ?_; exact NB427_434.out; refine bF ?_ ?_; exact NB427_434.out; exact bU BK427.out) hb) (aC (blk_below (g := gb434) (o := .cells #[.int .i64 t428, .int .i64 t429, .slice Ao24 t430.length co24] 24 (0, 0)) (by (with_reducible repeat (first | refine blk_drewN ?_ _ | refine blk_drew ?_ | refine blk_alloc ?_ _)); refine blk_put (cs := #[.int .i64 t428, .int .i64 t429, .slice none 0 0]) ?_ 2 _ rfl; (with_reducible repeat (first | refine blk_drewN ?_ _ | refine blk_drew ?_ | refine blk_alloc ?_ _)); refine blk_put (cs := #[.int .i64 t428, .int .i64 0, .slice none 0 0]) ?_ 1 _ rfl; (with_reducible repeat (first | refine blk_drewN ?_ _ | refine blk_drew ?_ | refine blk_alloc ?_ _)); refine blk_put (cs := #[.int .i64 0, .int .i64 0, .slice none 0 0]) ?_ 0 _ rfl; exact bU BK434.out) hb) (aE (bs hb)))))); clear HO425 HO432 BK419 BK427 BK434 HB; obtain ⟨HO425, HO432, BK419, BK427, BK434, HB⟩ := n_))
    go_meet
    case rel => exact ⟨_, (!t435), rq, H', ⟨by first | omega | exact Nat.le_refl _⟩, ⟨rU (Kd.R_mono HO425.out (fun _ hk => hk.2))⟩, ⟨rU (Kd.R_mono HO432.out (fun _ hk => hk.2))⟩, ⟨by exact bU BK419.out⟩, ⟨by exact bU BK427.out⟩, ⟨by exact bU BK434.out⟩, ⟨bl⟩⟩
   ·(first | rw [c25b0] | (simp only [i64_w, i32_w]; rw [c25b0]) | skip)
    have H' := Aside0.mk H
    clear H
    go_wp2
    go_meet
    case rel => exact ⟨_, (true), rq, H', ⟨by first | omega | exact Nat.le_refl _⟩, ⟨rU (Kd.R_mono (Kd.R_far (p := ⟨gb434, 2, none⟩) (Kd.R_far (p := ⟨gb434, 1, none⟩) (Kd.R_far (p := ⟨gb434, 0, none⟩) (Kd.R_types HO425.out BK434.out (by decide)) (fun _ hk => hk.2) (.int .i64 t428)) (fun _ hk => hk.2) (.int .i64 t429)) (fun _ hk => hk.2) (.slice Ao24 t430.length co24)) (fun _ hk => hk.1.2))⟩, ⟨rU (Kd.R_mono (Kd.R_far (p := ⟨gb434, 2, none⟩) (Kd.R_far (p := ⟨gb434, 1, none⟩) (Kd.R_far (p := ⟨gb434, 0, none⟩) (Kd.R_types HO432.out BK434.out (by decide)) (fun _ hk => hk.2) (.int .i64 t428)) (fun _ hk => hk.2) (.int .i64 t429)) (fun _ hk => hk.2) (.slice Ao24 t430.length co24)) (fun _ hk => hk.1.2))⟩, ⟨by refine bF ?_ ?_; exact NB419_434.out; refine bF ?_ ?_; exact NB419_434.out; refine bF ?_ ?_; exact NB419_434.out; exact bU BK419.out⟩, ⟨by refine bF ?_ ?_; exact NB427_434.out; refine bF ?_ ?_; exact NB427_434.out; refine bF ?_ ?_; exact NB427_434.out; exact bU BK427.out⟩, ⟨by (with_reducible repeat (first | refine blk_drewN ?_ _ | refine blk_drew ?_ | refine blk_alloc ?_ _)); refine blk_put (cs := #[.int .i64 t428, .int .i64 t429, .slice none 0 0]) ?_ 2 _ rfl; (with_reducible repeat (first | refine blk_drewN ?_ _ | refine blk_drew ?_ | refine blk_alloc ?_ _)); refine blk_put (cs := #[.int .i64 t428, .int .i64 0, .slice none 0 0]) ?_ 1 _ rfl; (with_reducible repeat (first | refine blk_drewN ?_ _ | refine blk_drew ?_ | refine blk_alloc ?_ _)); refine blk_put (cs := #[.int .i64 0, .int .i64 0, .slice none 0 0]) ?_ 0 _ rfl; exact bU BK434.out⟩, ⟨bl⟩⟩
  case rest =>
   clear HC10
   obtain ⟨kq, x41_9, rfl, HA, HJ9, HO_428002, HO_435002, BK419, BK427, BK434, HB⟩ := hcut
   cases kq with
   | zero => exact absurd HA.out (by simp [incunablelaw29_ScanSpecks.j0])
   | succ kj9 =>
    have H := HA.out
    clear HA
    simp only [incunablelaw29_ScanSpecks.j0] at H
    by_cases c33 : x41_9 = true
    ·subst c33
     rw [if_pos rfl] at H
     exact absurd ((Option.some.inj H).trans HR_.out) (by decide)
    ·replace c33 := Bool.eq_false_iff.mpr c33
     subst c33
     rw [if_neg Bool.false_ne_true] at H
     rcases iE H with H1 | H1 <;> clear H <;> obtain ⟨H, c34b0, c34b1, c34⟩ := H1
     ·obtain ⟨⟨t437, t438, t439, t442⟩, A35, H⟩ := oB H
      try dsimp only at H
      have HC36 := Aside0.mk H
      clear H
      have hnb37 := NB427_419.out
      have hnc37 := NB419_427.out
      have hnb38 := NB427_434.out
      have hnc38 := NB434_427.out
      obtain ⟨hcz39_0, hcz39_1, hcz39_2, hfz39_0, hfz39_1, hfz39_2⟩ := cz3f BK427.out
      go_upto_region 10 with (first | ((with_reducible refine gf 5 rfl ?_); refine gL (some 48) rfl rfl Try.func5 rfl #[.agg #[.int .i64 t421, .int .i64 t422, .slice Ao17 t423.length co17], .int .i64 a1] rfl ?_; (with_reducible refine (scan_Despeckle.calls kj9 t421 t422 _ _ t423 a1 t437 t438 t439 t442 _ ?side1 ?side2 A35.out).mono ?_); (case side1 => exact cU (Kd.R_reads' HO_428002.out).2.2); (case side2 => exact (Kd.R_reads' HO_428002.out).2.1); rintro e w40 ⟨v440, rfl, ho0, hb⟩; refine ⟨_, rfl, ?_⟩; have n_ := aC (Kd.R_elder' (rU HO_428002.out) (Kd.R_base ho0) hb) (aC (Kd.R_elder' (rU HO_435002.out) (Kd.R_base ho0) hb) (aC (Kd.R_lower (Kd.R_new' (Kd.R_new' ho0 (Kd.R_lt (rU HO_428002.out))) (Kd.R_lt (rU HO_435002.out))) bz) (aC (blk_below (bU BK419.out) hb) (aC (blk_below (bU BK427.out) hb) (aC (blk_below (bU BK434.out) hb) (aE (bs hb))))))); clear HO_428002 HO_435002 BK419 BK427 BK434 HB; obtain ⟨HO_428002, HO_435002, HO441, BK419, BK427, BK434, HB⟩ := n_) | ((with_reducible refine gd 9 rfl ?_); refine bx 9 #[.int .i64 0, .int .i64 0, .slice none 0 0] 24 rfl rfl ?_; intro gb443 hg w41 hbox hb; have n_ := aC (Kd.R_below (rU HO_428002.out) hb) (aC (Kd.R_below (rU HO_435002.out) hb) (aC (Kd.R_below (rU HO441.out) hb) (aC (blk_below (bU BK419.out) hb) (aC (blk_below (bU BK427.out) hb) (aC (blk_below (bU BK434.out) hb) (aC (bs hb) (aC hbox (aC (gz hg) (aC (gz hg) (aC (gn hg (bU BK419.out)) (aC (gm hg (bU BK419.out)) (aC (gn hg (bU BK427.out)) (aC (gm hg (bU BK427.out)) (aC (gn hg (bU BK434.out)) (aE (gm hg (bU BK434.out))))))))))))))))); clear HO_428002 HO_435002 HO441 BK419 BK427 BK434 HB; obtain ⟨HO_428002, HO_435002, HO441, BK419, BK427, BK434, HB, BK443, GW443, GE443, NB419_443, NB443_419, NB427_443, NB443_427, NB434_443, NB443_434⟩ := n_; clear hb hbox hg; have hnb42 := NB443_419.out; have hnc42 := NB419_443.out; have hnb43 := NB443_427.out; have hnc43 := NB427_443.out; have hnb44 := NB443_434.out; have hnc44 := NB434_443.out; obtain ⟨hcz45_0, hcz45_1, hcz45_2, hfz45_0, hfz45_1, hfz45_2⟩ := cz3f BK443.out; obtain ⟨Ao46, co46, eo46⟩ := Kd.R_slice HO441.out; subst eo46))
      (try simp only [Act.put, List.setIfInBounds_toArray, List.set_cons_zero, List.set_cons_succ])
      go_cut [58] (fun v58 wc => ∃ (kq : Nat) (x58_35 : Bool), v58 = .bool x58_35 ∧ Aside0 (incunablelaw29_ScanSpecks.j1 kq a1 x58_35 a0_0 a0_1 l0_2 t421 t422 t423 = some r) ∧ Aside0 (kq ≤ kj9) ∧ Aside0 (Kd.R (Kd.int .u8) 5 wc w.heap.size (fun k_ => some k_ ≠ ((.slice Ao24 t430.length co24) : Value).ownBlock ∧ some k_ ≠ ((.slice Ao46 t439.length co46) : Value).ownBlock) (.slice Ao17 t423.length co17) t423) ∧ Aside0 (Kd.R (Kd.int .u8) 5 wc w.heap.size (fun k_ => some k_ ≠ ((.slice Ao17 t423.length co17) : Value).ownBlock ∧ some k_ ≠ ((.slice Ao46 t439.length co46) : Value).ownBlock) (.slice Ao24 t430.length co24) t430) ∧ Aside0 (Kd.R (Kd.int .u8) 5 wc w.heap.size (fun k_ => some k_ ≠ ((.slice Ao17 t423.length co17) : Value).ownBlock ∧ some k_ ≠ ((.slice Ao24 t430.length co24) : Value).ownBlock) (.slice Ao46 t439.length co46) t439) ∧ Aside0 (wc.heap[gb419]? = some (.cells #[.int .i64 a0_0, .int .i64 a0_1, (.slice A0_2 l0_2.length c0_2)] 24 (0, 0))) ∧ Aside0 (wc.heap[gb427]? = some (.cells #[.int .i64 t421, .int .i64 t422, (.slice Ao17 t423.length co17)] 24 (0, 0))) ∧ Aside0 (wc.heap[gb434]? = some (.cells #[.int .i64 t428, .int .i64 t429, (.slice Ao24 t430.length co24)] 24 (0, 0))) ∧ Aside0 (wc.heap[gb443]? = some (.cells #[.int .i64 t437, .int .i64 t438, (.slice Ao46 t439.length co46)] 24 (0, 0))) ∧ Aside0 (Below w.heap.size w wc))
      case first =>
       have H := HC36.out
       clear HC36
       rcases iE H with H1 | H1 <;> clear H <;> obtain ⟨H, c47b0, c47b1, c47⟩ := H1
       ·(first | rw [c47b0] | (simp only [i64_w, i32_w]; rw [c47b0]) | skip)
        obtain ⟨t444, A48, H⟩ := oB H
        try dsimp only at H
        have H' := Aside0.mk H
        clear H
        have hnb49 := NB443_419.out
        have hnc49 := NB419_443.out
        have hnb50 := NB443_427.out
        have hnc50 := NB427_443.out
        have hnb51 := NB443_434.out
        have hnc51 := NB434_443.out
        obtain ⟨hcz52_0, hcz52_1, hcz52_2, hfz52_0, hfz52_1, hfz52_2⟩ := cz3f BK443.out
        have hnb53 := NB427_419.out
        have hnc53 := NB419_427.out
        have hnb54 := NB427_434.out
        have hnc54 := NB434_427.out
        obtain ⟨hcz55_0, hcz55_1, hcz55_2, hfz55_0, hfz55_1, hfz55_2⟩ := cz3f BK427.out
        go_wp2_with (first | (go_at_call 7; (with_reducible refine (incunableref05_Same.calls t437 t438 _ _ t439 t421 t422 _ _ t423 t444 _ ?side1 ?side2 ?side3 ?side4 A48.out).mono ?_); (case side1 => refine (Kd.R_reads' (e := 5) (base := w.heap.size) (ok := fun k_ => ((True ∧ some k_ ≠ (.slice Ao17 t423.length co17 : Value).ownBlock) ∧ some k_ ≠ (.slice Ao24 t430.length co24 : Value).ownBlock)) (n := t439.length) (c := co46) ?_).2.2; exact (rU (Kd.R_mono (Kd.R_far (p := ⟨gb443, 2, none⟩) (Kd.R_far (p := ⟨gb443, 1, none⟩) (Kd.R_far (p := ⟨gb443, 0, none⟩) (Kd.R_types HO441.out BK443.out (by decide)) (fun _ hk => hk.2) (.int .i64 t437)) (fun _ hk => hk.2) (.int .i64 t438)) (fun _ hk => hk.2) (.slice Ao46 t439.length co46)) (fun _ h_ => h_.1)))); (case side2 => exact (Kd.R_reads' HO441.out).2.1); (case side3 => refine (Kd.R_reads' (e := 5) (base := w.heap.size) (ok := fun k_ => (some k_ ≠ (.slice Ao24 t430.length co24 : Value).ownBlock ∧ some k_ ≠ (.slice Ao46 t439.length co46 : Value).ownBlock)) (n := t423.length) (c := co17) ?_).2.2; exact (rU (Kd.R_mono (Kd.R_far (p := ⟨gb443, 2, none⟩) (Kd.R_far (p := ⟨gb443, 1, none⟩) (Kd.R_far (p := ⟨gb443, 0, none⟩) (Kd.R_types HO_428002.out BK443.out (by decide)) (fun _ hk => hk.2) (.int .i64 t437)) (fun _ hk => hk.2) (.int .i64 t438)) (fun _ hk => hk.2) (.slice Ao46 t439.length co46)) (fun _ h_ => h_.1)))); (case side4 => exact (Kd.R_reads' HO_428002.out).2.1); rintro e w56 ⟨rfl, hb⟩; have n_ := aC (Kd.R_below (rU (Kd.R_mono (Kd.R_far (p := ⟨gb443, 2, none⟩) (Kd.R_far (p := ⟨gb443, 1, none⟩) (Kd.R_far (p := ⟨gb443, 0, none⟩) (Kd.R_types HO_428002.out BK443.out (by decide)) (fun _ hk => hk.2) (.int .i64 t437)) (fun _ hk => hk.2) (.int .i64 t438)) (fun _ hk => hk.2) (.slice Ao46 t439.length co46)) (fun _ h_ => h_.1))) hb) (aC (Kd.R_below (rU (Kd.R_mono (Kd.R_far (p := ⟨gb443, 2, none⟩) (Kd.R_far (p := ⟨gb443, 1, none⟩) (Kd.R_far (p := ⟨gb443, 0, none⟩) (Kd.R_types HO_435002.out BK443.out (by decide)) (fun _ hk => hk.2) (.int .i64 t437)) (fun _ hk => hk.2) (.int .i64 t438)) (fun _ hk => hk.2) (.slice Ao46 t439.length co46)) (fun _ h_ => h_.1))) hb) (aC (Kd.R_below (rU (Kd.R_mono (Kd.R_far (p := ⟨gb443, 2, none⟩) (Kd.R_far (p := ⟨gb443, 1, none⟩) (Kd.R_far (p := ⟨gb443, 0, none⟩) (Kd.R_types HO441.out BK443.out (by decide)) (fun _ hk => hk.2) (.int .i64 t437)) (fun _ hk => hk.2) (.int .i64 t438)) (fun _ hk => hk.2) (.slice Ao46 t439.length co46)) (fun _ h_ => h_.1))) hb) (aC (blk_below (g := gb419) (o := .cells #[.int .i64 a0_0, .int .i64 a0_1, .slice A0_2 l0_2.length c0_2] 24 (0, 0)) (by refine bF ?_ ?_; exact NB419_443.out; refine bF ?_ ?_; exact NB419_443.out; refine bF ?_ ?_; exact NB419_443.out; exact bU BK419.out) hb) (aC (blk_below (g := gb427) (o := .cells #[.int .i64 t421, .int .i64 t422, .slice Ao17 t423.length co17] 24 (0, 0)) (by refine bF ?_ ?_; exact NB427_443.out; refine bF ?_ ?_; exact NB427_443.out; refine bF ?_ ?_; exact NB427_443.out; exact bU BK427.out) hb) (aC (blk_below (g := gb434) (o := .cells #[.int .i64 t428, .int .i64 t429, .slice Ao24 t430.length co24] 24 (0, 0)) (by refine bF ?_ ?_; exact NB434_443.out; refine bF ?_ ?_; exact NB434_443.out; refine bF ?_ ?_; exact NB434_443.out; exact bU BK434.out) hb) (aC (blk_below (g := gb443) (o := .cells #[.int .i64 t437, .int .i64 t438, .slice Ao46 t439.length co46] 24 (0, 0)) (by (with_reducible repeat (first | refine blk_drewN ?_ _ | refine blk_drew ?_ | refine blk_alloc ?_ _)); refine blk_put (cs := #[.int .i64 t437, .int .i64 t438, .slice none 0 0]) ?_ 2 _ rfl; (with_reducible repeat (first | refine blk_drewN ?_ _ | refine blk_drew ?_ | refine blk_alloc ?_ _)); refine blk_put (cs := #[.int .i64 t437, .int .i64 0, .slice none 0 0]) ?_ 1 _ rfl; (with_reducible repeat (first | refine blk_drewN ?_ _ | refine blk_drew ?_ | refine blk_alloc ?_ _)); refine blk_put (cs := #[.int .i64 0, .int .i64 0, .slice none 0 0]) ?_ 0 _ rfl; exact bU BK443.out) hb) (aE (bs hb)))))))); clear HO_428002 HO_435002 HO441 BK419 BK427 BK434 BK443 HB; obtain ⟨HO_428002, HO_435002, HO441, BK419, BK427, BK434, BK443, HB⟩ := n_))
        go_meet
        case rel => exact ⟨_, (!t444), rq, H', ⟨by have := HJ9.out; first | omega | exact Nat.le_refl _⟩, ⟨rU HO_428002.out⟩, ⟨rU HO_435002.out⟩, ⟨rU (Kd.R_mono HO441.out (fun _ hk => ⟨hk.1.2, hk.2⟩))⟩, ⟨by exact bU BK419.out⟩, ⟨by exact bU BK427.out⟩, ⟨by exact bU BK434.out⟩, ⟨by exact bU BK443.out⟩, ⟨bl⟩⟩
       ·(first | rw [c47b0] | (simp only [i64_w, i32_w]; rw [c47b0]) | skip)
        have H' := Aside0.mk H
        clear H
        go_wp2
        go_meet
        case rel => exact ⟨_, (true), rq, H', ⟨by have := HJ9.out; first | omega | exact Nat.le_refl _⟩, ⟨rU (Kd.R_mono (Kd.R_far (p := ⟨gb443, 2, none⟩) (Kd.R_far (p := ⟨gb443, 1, none⟩) (Kd.R_far (p := ⟨gb443, 0, none⟩) (Kd.R_types HO_428002.out BK443.out (by decide)) (fun _ hk => hk.2) (.int .i64 t437)) (fun _ hk => hk.2) (.int .i64 t438)) (fun _ hk => hk.2) (.slice Ao46 t439.length co46)) (fun _ hk => ⟨hk.1.1, hk.1.2⟩))⟩, ⟨rU (Kd.R_mono (Kd.R_far (p := ⟨gb443, 2, none⟩) (Kd.R_far (p := ⟨gb443, 1, none⟩) (Kd.R_far (p := ⟨gb443, 0, none⟩) (Kd.R_types HO_435002.out BK443.out (by decide)) (fun _ hk => hk.2) (.int .i64 t437)) (fun _ hk => hk.2) (.int .i64 t438)) (fun _ hk => hk.2) (.slice Ao46 t439.length co46)) (fun _ hk => ⟨hk.1.1, hk.1.2⟩))⟩, ⟨rU (Kd.R_mono (Kd.R_far (p := ⟨gb443, 2, none⟩) (Kd.R_far (p := ⟨gb443, 1, none⟩) (Kd.R_far (p := ⟨gb443, 0, none⟩) (Kd.R_types HO441.out BK443.out (by decide)) (fun _ hk => hk.2) (.int .i64 t437)) (fun _ hk => hk.2) (.int .i64 t438)) (fun _ hk => hk.2) (.slice Ao46 t439.length co46)) (fun _ hk => ⟨hk.1.1.2, hk.1.2⟩))⟩, ⟨by refine bF ?_ ?_; exact NB419_443.out; refine bF ?_ ?_; exact NB419_443.out; refine bF ?_ ?_; exact NB419_443.out; exact bU BK419.out⟩, ⟨by refine bF ?_ ?_; exact NB427_443.out; refine bF ?_ ?_; exact NB427_443.out; refine bF ?_ ?_; exact NB427_443.out; exact bU BK427.out⟩, ⟨by refine bF ?_ ?_; exact NB434_443.out; refine bF ?_ ?_; exact NB434_443.out; refine bF ?_ ?_; exact NB434_443.out; exact bU BK434.out⟩, ⟨by (with_reducible repeat (first | refine blk_drewN ?_ _ | refine blk_drew ?_ | refine blk_alloc ?_ _)); refine blk_put (cs := #[.int .i64 t437, .int .i64 t438, .slice none 0 0]) ?_ 2 _ rfl; (with_reducible repeat (first | refine blk_drewN ?_ _ | refine blk_drew ?_ | refine blk_alloc ?_ _)); refine blk_put (cs := #[.int .i64 t437, .int .i64 0, .slice none 0 0]) ?_ 1 _ rfl; (with_reducible repeat (first | refine blk_drewN ?_ _ | refine blk_drew ?_ | refine blk_alloc ?_ _)); refine blk_put (cs := #[.int .i64 0, .int .i64 0, .slice none 0 0]) ?_ 0 _ rfl; exact bU BK443.out⟩, ⟨bl⟩⟩
      case rest =>
       clear HC36
       obtain ⟨kq, x58_35, rfl, HA, HJ35, HO_428002, HO_435002, HO_444002, BK419, BK427, BK434, BK443, HB⟩ := hcut
       cases kq with
       | zero => exact absurd HA.out (by simp [incunablelaw29_ScanSpecks.j1])
       | succ kj35 =>
        have H := HA.out
        clear HA
        simp only [incunablelaw29_ScanSpecks.j1] at H
        by_cases c57 : x58_35 = true
        ·subst c57
         rw [if_pos rfl] at H
         exact absurd ((Option.some.inj H).trans HR_.out) (by decide)
        ·replace c57 := Bool.eq_false_iff.mpr c57
         subst c57
         rw [if_neg Bool.false_ne_true] at H
         obtain ⟨⟨t445, t448⟩, A58, H⟩ := oB H
         try dsimp only at H
         obtain ⟨⟨t449, t452⟩, A59, H⟩ := oB H
         try dsimp only at H
         have H' := Aside0.mk H
         clear H
         have hnb60 := NB419_427.out
         have hnc60 := NB427_419.out
         have hnb61 := NB419_434.out
         have hnc61 := NB434_419.out
         have hnb62 := NB419_443.out
         have hnc62 := NB443_419.out
         obtain ⟨hcz63_0, hcz63_1, hcz63_2, hfz63_0, hfz63_1, hfz63_2⟩ := cz3f BK419.out
         go_wp2_with (first | ((with_reducible refine gf 8 rfl ?_); refine gL (some 61) rfl rfl Try.func8 rfl #[.agg #[.int .i64 a0_0, .int .i64 a0_1, .slice A0_2 l0_2.length c0_2]] rfl ?_; (with_reducible refine (incunableref15_Components.calls kj35 a0_0 a0_1 _ _ l0_2 t445 t448 _ ?side1 ?side2 A58.out).mono ?_); (case side1 => exact cU (Kd.C_below HR0_2.out HB.out)); (case side2 => exact HC0_2.out); rintro e w64 ⟨v446, rfl, ho0, hb⟩; refine ⟨_, rfl, ?_⟩; have n_ := aC (Kd.R_below (rU HO_428002.out) hb) (aC (Kd.R_below (rU HO_435002.out) hb) (aC (Kd.R_below (rU HO_444002.out) hb) (aC (Kd.N_lower (Kd.N_mono (ok' := fun k_ => some k_ ≠ (.slice Ao17 t423.length co17 : Value).ownBlock ∧ some k_ ≠ (.slice Ao24 t430.length co24 : Value).ownBlock ∧ some k_ ≠ (.slice Ao46 t439.length co46 : Value).ownBlock ∧ k_ ≠ gb419 ∧ k_ ≠ gb427 ∧ k_ ≠ gb434 ∧ k_ ≠ gb443) (Kd.S_N (Kd.S_bound ho0)) (fun k_ hk_ => ⟨(Kd.fresh' (Kd.R_lt (rU HO_428002.out)) k_ hk_.2.1), (Kd.fresh' (Kd.R_lt (rU HO_435002.out)) k_ hk_.2.1), (Kd.fresh' (Kd.R_lt (rU HO_444002.out)) k_ hk_.2.1), (Kd.freshB (bU BK419.out) k_ hk_.2.1), (Kd.freshB (bU BK427.out) k_ hk_.2.1), (Kd.freshB (bU BK434.out) k_ hk_.2.1), (Kd.freshB (bU BK443.out) k_ hk_.2.1)⟩)) bz) (aC (blk_below (bU BK419.out) hb) (aC (blk_below (bU BK427.out) hb) (aC (blk_below (bU BK434.out) hb) (aC (blk_below (bU BK443.out) hb) (aE (bs hb))))))))); clear HO_428002 HO_435002 HO_444002 BK419 BK427 BK434 BK443 HB; obtain ⟨HO_428002, HO_435002, HO_444002, HO447, BK419, BK427, BK434, BK443, HB⟩ := n_; have hnb65 := NB427_434.out; have hnc65 := NB434_427.out; have hnb66 := NB427_443.out; have hnc66 := NB443_427.out; obtain ⟨hcz67_0, hcz67_1, hcz67_2, hfz67_0, hfz67_1, hfz67_2⟩ := cz3f BK427.out) | ((with_reducible refine gf 8 rfl ?_); refine gL (some 66) rfl rfl Try.func8 rfl #[.agg #[.int .i64 t421, .int .i64 t422, .slice Ao17 t423.length co17]] rfl ?_; (with_reducible refine (incunableref15_Components.calls kj35 t421 t422 _ _ t423 t449 t452 _ ?side1 ?side2 A59.out).mono ?_); (case side1 => exact cU (Kd.R_reads' HO_428002.out).2.2); (case side2 => exact (Kd.R_reads' HO_428002.out).2.1); rintro e w68 ⟨v450, rfl, ho0, hb⟩; refine ⟨_, rfl, ?_⟩; have n_ := aC (Kd.R_below (rU HO_428002.out) hb) (aC (Kd.R_below (rU HO_435002.out) hb) (aC (Kd.R_below (rU HO_444002.out) hb) (aC (Kd.N_elder' (by (with_reducible repeat (first | apply Kd.N_alloc | apply Kd.N_drewN | apply Kd.N_drew)); exact HO447.out) (Kd.S_base ho0) hb) (aC (Kd.N_lower (Kd.N_mono (ok' := fun k_ => some k_ ≠ (.slice Ao17 t423.length co17 : Value).ownBlock ∧ some k_ ≠ (.slice Ao24 t430.length co24 : Value).ownBlock ∧ some k_ ≠ (.slice Ao46 t439.length co46 : Value).ownBlock ∧ some k_ ≠ (v446 : Value).ownBlock ∧ k_ ≠ gb419 ∧ k_ ≠ gb427 ∧ k_ ≠ gb434 ∧ k_ ≠ gb443) (Kd.S_N (Kd.S_bound ho0)) (fun k_ hk_ => ⟨(Kd.fresh' (Kd.R_lt (rU HO_428002.out)) k_ hk_.2.1), (Kd.fresh' (Kd.R_lt (rU HO_435002.out)) k_ hk_.2.1), (Kd.fresh' (Kd.R_lt (rU HO_444002.out)) k_ hk_.2.1), (Kd.fresh' (Kd.N_lt (by (with_reducible repeat (first | apply Kd.N_alloc | apply Kd.N_drewN | apply Kd.N_drew)); exact HO447.out)) k_ hk_.2.1), (Kd.freshB (bU BK419.out) k_ hk_.2.1), (Kd.freshB (bU BK427.out) k_ hk_.2.1), (Kd.freshB (bU BK434.out) k_ hk_.2.1), (Kd.freshB (bU BK443.out) k_ hk_.2.1)⟩)) bz) (aC (blk_below (bU BK419.out) hb) (aC (blk_below (bU BK427.out) hb) (aC (blk_below (bU BK434.out) hb) (aC (blk_below (bU BK443.out) hb) (aE (bs hb)))))))))); clear HO_428002 HO_435002 HO_444002 HO447 BK419 BK427 BK434 BK443 HB; obtain ⟨HO_428002, HO_435002, HO_444002, HO447, HO451, BK419, BK427, BK434, BK443, HB⟩ := n_))
         go_loopg [14, 15] kj35 (fun kq v14 v15 w' => ∃ (x14_3 : List (S35)) (x15_3 : Int), v15 = .int .i64 x15_3 ∧ Aside0 (incunablelaw29_ScanSpecks.l0 kq a1 t445 t449 x14_3 x15_3 = some r) ∧ Aside0 (kq ≤ kj35) ∧ Aside0 (Kd.N k35 35 w' w.heap.size (fun k_ => some k_ ≠ (v450 : Value).ownBlock ∧ some k_ ≠ (v14 : Value).ownBlock ∧ some k_ ≠ ((.slice Ao17 t423.length co17) : Value).ownBlock ∧ some k_ ≠ ((.slice Ao24 t430.length co24) : Value).ownBlock ∧ some k_ ≠ ((.slice Ao46 t439.length co46) : Value).ownBlock ∧ k_ ≠ gb419 ∧ k_ ≠ gb427 ∧ k_ ≠ gb434 ∧ k_ ≠ gb443) v446 t445) ∧ Aside0 (Kd.N k35 35 w' w.heap.size (fun k_ => some k_ ≠ (v446 : Value).ownBlock ∧ some k_ ≠ (v14 : Value).ownBlock ∧ some k_ ≠ ((.slice Ao17 t423.length co17) : Value).ownBlock ∧ some k_ ≠ ((.slice Ao24 t430.length co24) : Value).ownBlock ∧ some k_ ≠ ((.slice Ao46 t439.length co46) : Value).ownBlock ∧ k_ ≠ gb419 ∧ k_ ≠ gb427 ∧ k_ ≠ gb434 ∧ k_ ≠ gb443) v450 t449) ∧ Aside0 (Kd.N k35 35 w' w.heap.size (fun k_ => some k_ ≠ (v446 : Value).ownBlock ∧ some k_ ≠ (v450 : Value).ownBlock ∧ some k_ ≠ ((.slice Ao17 t423.length co17) : Value).ownBlock ∧ some k_ ≠ ((.slice Ao24 t430.length co24) : Value).ownBlock ∧ some k_ ≠ ((.slice Ao46 t439.length co46) : Value).ownBlock ∧ k_ ≠ gb419 ∧ k_ ≠ gb427 ∧ k_ ≠ gb434 ∧ k_ ≠ gb443) v14 x14_3) ∧ Aside0 (Kd.R (Kd.int .u8) 5 w' w.heap.size (fun k_ => some k_ ≠ ((.slice Ao24 t430.length co24) : Value).ownBlock ∧ some k_ ≠ ((.slice Ao46 t439.length co46) : Value).ownBlock) (.slice Ao17 t423.length co17) t423) ∧ Aside0 (Kd.R (Kd.int .u8) 5 w' w.heap.size (fun k_ => some k_ ≠ ((.slice Ao17 t423.length co17) : Value).ownBlock ∧ some k_ ≠ ((.slice Ao46 t439.length co46) : Value).ownBlock) (.slice Ao24 t430.length co24) t430) ∧ Aside0 (Kd.R (Kd.int .u8) 5 w' w.heap.size (fun k_ => some k_ ≠ ((.slice Ao17 t423.length co17) : Value).ownBlock ∧ some k_ ≠ ((.slice Ao24 t430.length co24) : Value).ownBlock) (.slice Ao46 t439.length co46) t439) ∧ Aside0 (w'.heap[gb419]? = some (.cells #[.int .i64 a0_0, .int .i64 a0_1, (.slice A0_2 l0_2.length c0_2)] 24 (0, 0))) ∧ Aside0 (w'.heap[gb427]? = some (.cells #[.int .i64 t421, .int .i64 t422, (.slice Ao17 t423.length co17)] 24 (0, 0))) ∧ Aside0 (w'.heap[gb434]? = some (.cells #[.int .i64 t428, .int .i64 t429, (.slice Ao24 t430.length co24)] 24 (0, 0))) ∧ Aside0 (w'.heap[gb443]? = some (.cells #[.int .i64 t437, .int .i64 t438, (.slice Ao46 t439.length co46)] 24 (0, 0))) ∧ Aside0 (Below w.heap.size w w'))
         case atStart => exact ⟨(([] : List (S35))), (0), rq, H', ⟨Nat.le_refl _⟩, ⟨by (with_reducible repeat (first | apply Kd.N_alloc | apply Kd.N_drewN | apply Kd.N_drew)); exact Kd.N_mono HO447.out (fun _ hk => ⟨hk.2, ⟨(by simp [Value.ownBlock]), ⟨hk.1.1, ⟨hk.1.2.1, ⟨hk.1.2.2.1, ⟨hk.1.2.2.2.1, ⟨hk.1.2.2.2.2.1, ⟨hk.1.2.2.2.2.2.1, hk.1.2.2.2.2.2.2⟩⟩⟩⟩⟩⟩⟩⟩)⟩, ⟨by (with_reducible repeat (first | apply Kd.N_alloc | apply Kd.N_drewN | apply Kd.N_drew)); exact Kd.N_mono HO451.out (fun _ hk => ⟨hk.2.2.2.1, ⟨(by simp [Value.ownBlock]), ⟨hk.1, ⟨hk.2.1, ⟨hk.2.2.1, ⟨hk.2.2.2.2.1, ⟨hk.2.2.2.2.2.1, ⟨hk.2.2.2.2.2.2.1, hk.2.2.2.2.2.2.2⟩⟩⟩⟩⟩⟩⟩⟩)⟩, ⟨by first | exact Kd.S_nil _ _ _ _ _ | exact Kd.N_nil _ _ _ _ _ | exact Kd.V_nil _ _ _ _ _ | exact Kd.Q_nil _ _ _ _ _ | exact Kd.R_nil _ _ _ _ _⟩, ⟨rU HO_428002.out⟩, ⟨rU HO_435002.out⟩, ⟨rU HO_444002.out⟩, ⟨by exact bU BK419.out⟩, ⟨by exact bU BK427.out⟩, ⟨by exact bU BK434.out⟩, ⟨by exact bU BK443.out⟩, ⟨bl⟩⟩
         case round =>
          clear H'
          obtain ⟨x14_3, x15_3, rfl, HA, HK3, HO_10, HO_12, HO_14, HO_428002, HO_435002, HO_444002, BK419, BK427, BK434, BK443, HB⟩ := hrel
          cases gk with
          | zero => exact absurd HA.out (by simp [incunablelaw29_ScanSpecks.l0])
          | succ k3 =>
           have H := HA.out
           clear HA
           simp only [incunablelaw29_ScanSpecks.l0] at H
           rcases iL H with H1 | H1 <;> clear H <;> obtain ⟨H, c69b0⟩ := H1
           ·by_cases c70 : 0 ≤ x15_3
            ·rw [if_pos c70] at H
             have c70b0 := decide_eq_true c70
             clear c70
             obtain ⟨t454, A71, H⟩ := oB H
             try dsimp only at H
             rcases iL H with H1 | H1 <;> clear H <;> obtain ⟨H, c72b0⟩ := H1
             ·by_cases c73 : x14_3.length < 2513169434916
              ·rw [if_pos c73] at H
               have LMc73 := Aside0.mk c73
               clear c73
               obtain ⟨y456, hy_⟩ : ∃ y_ : List (S35), y_ = (x14_3 ++ [(⟨(⟨(rd_T35 t445 x15_3).f0.f0, (rd_T35 t445 x15_3).f0.f1, (rd_T35 t445 x15_3).f0.f2⟩ : S24), (rd_T35 t445 x15_3).f1, (rd_T35 t445 x15_3).f2⟩ : S35)]) := ⟨_, rfl⟩
               replace H : (incunablelaw29_ScanSpecks.l0 k3 a1 t445 t449 y456 (wrap64 (x15_3 + 1))) = some r := rh
               have Ny456 := aE hy_
               clear hy_
               have H' := Aside0.mk H
               clear H
               obtain ⟨Ao74, co74, eo74⟩ := Kd.N_slice HO_10.out
               subst eo74
               have p453 : 0 ≤ (x15_3 : Int) := dt
               have q453 : x15_3 < (t445.length : Int) := dt
               obtain ⟨ad453, A453_2, c453_2, e453, hx453_0, hx453_1, hx453_2, hx453_3, hx453_4, hl453_2, hi453_2⟩ := at_T35 (Kd.N_reads' HO_10.out).2.2 x15_3 p453 q453
               cases e453
               obtain ⟨ce453, hce453, hMe453, hcc453⟩ := Kd.N_get HO_10.out z35 x15_3 p453 (by first | exact q453 | exact dt | (have e_ := (Kd.N_reads' HO_10.out).1; omega))
               obtain ⟨ua453_2, uc453_2, rfl, ul453_2, ge453_2⟩ := k35_openF hMe453
               have hv453_2 := hcc453 2 _ rfl
               rw [add_field _ _ 2 (by omega)] at hv453_2
               replace hv453_2 := Option.some.inj (hv453_2.symm.trans hx453_2)
               injection hv453_2 with hva_ hvn_ hvc_
               rw [hva_] at ge453_2
               rw [hvc_] at ul453_2
               have HL453_2 := Aside0.mk (show Kd.V (Kd.int .u8) 5 _ w.heap.size _ _ ((rd_T35 t445 x15_3).f0.f2) from Kd.V_mk ul453_2 ge453_2)
               clear hva_ hvn_ hvc_ ge453_2 ul453_2
               clear hcc453 hce453
               have HR453_2 := Aside0.mk hi453_2
               have HC453_2 := Aside0.mk hl453_2
               clear hi453_2 hl453_2
               replace p453 := eq_true p453
               replace q453 := eq_true q453
               go_wp2_with (first | ((with_reducible refine gf 9 rfl ?_); refine gL (some 80) rfl rfl Try.func9 rfl #[.agg #[.int .i64 ((rd_T35 t445 x15_3).f0.f0), .int .i64 ((rd_T35 t445 x15_3).f0.f1), .slice A453_2 ((rd_T35 t445 x15_3).f0.f2).length c453_2]] rfl ?_; (with_reducible refine (incunableref05_Blacks.calls k3 ((rd_T35 t445 x15_3).f0.f0) ((rd_T35 t445 x15_3).f0.f1) _ _ ((rd_T35 t445 x15_3).f0.f2) t454 _ ?side1 ?side2 A71.out).mono ?_); (case side1 => repeat (first | exact (by repeat (first | (with_reducible exact HR453_2.out) | (with_reducible refine Kd.C_alloc ?_ _) | (with_reducible refine Kd.C_drewN ?_ _) | (with_reducible refine Kd.C_drew ?_) | exact HR453_2.out)) | (with_reducible refine Kd.C_alloc ?_ _) | (with_reducible refine Kd.C_drewN ?_ _) | (with_reducible refine Kd.C_drew ?_))); (case side2 => exact HC453_2.out); rintro e w75 ⟨rfl, hb⟩; refine ⟨_, rfl, ?_⟩; have n_ := aC (Kd.N_below (by (with_reducible repeat (first | apply Kd.N_alloc | apply Kd.N_drewN | apply Kd.N_drew)); exact HO_10.out) hb) (aC (Kd.N_below (by (with_reducible repeat (first | apply Kd.N_alloc | apply Kd.N_drewN | apply Kd.N_drew)); exact HO_12.out) hb) (aC (Kd.N_below (by (with_reducible repeat (first | apply Kd.N_alloc | apply Kd.N_drewN | apply Kd.N_drew)); exact HO_14.out) hb) (aC (Kd.R_below (rU HO_428002.out) hb) (aC (Kd.R_below (rU HO_435002.out) hb) (aC (Kd.R_below (rU HO_444002.out) hb) (aC (Kd.V_below (by (with_reducible repeat (first | apply Kd.V_alloc | apply Kd.V_drewN | apply Kd.V_drew)); exact HL453_2.out) hb) (aC (blk_below (bU BK419.out) hb) (aC (blk_below (bU BK427.out) hb) (aC (blk_below (bU BK434.out) hb) (aC (blk_below (bU BK443.out) hb) (aC (Kd.C_below (by repeat (first | (with_reducible exact HR453_2.out) | (with_reducible refine Kd.C_alloc ?_ _) | (with_reducible refine Kd.C_drewN ?_ _) | (with_reducible refine Kd.C_drew ?_) | exact HR453_2.out)) hb) (aE (bs hb))))))))))))); clear HO_10 HO_12 HO_14 HO_428002 HO_435002 HO_444002 HL453_2 BK419 BK427 BK434 BK443 HR453_2 HB; obtain ⟨HO_10, HO_12, HO_14, HO_428002, HO_435002, HO_444002, HL453_2, BK419, BK427, BK434, BK443, HR453_2, HB⟩ := n_; have p455 : 0 ≤ (x15_3 : Int) := dt; have q455 : x15_3 < (t445.length : Int) := dt; obtain ⟨ad455, A455_2, c455_2, e455, hx455_0, hx455_1, hx455_2, hx455_3, hx455_4, hl455_2, hi455_2⟩ := at_T35 (Kd.N_reads' HO_10.out).2.2 x15_3 p455 q455; obtain rfl : ad453 = ad455 := (by injection e455); obtain ⟨ce455, hce455, hMe455, hcc455⟩ := Kd.N_get HO_10.out z35 x15_3 p455 (by first | exact q455 | exact dt | (have e_ := (Kd.N_reads' HO_10.out).1; omega)); obtain ⟨ua455_2, uc455_2, rfl, ul455_2, ge455_2⟩ := k35_openF hMe455; have hv455_2 := hcc455 2 _ rfl; rw [add_field _ _ 2 (by omega)] at hv455_2; replace hv455_2 := Option.some.inj (hv455_2.symm.trans hx455_2); injection hv455_2 with hva_ hvn_ hvc_; rw [hva_] at ge455_2; rw [hvc_] at ul455_2; have HL455_2 := Aside0.mk (show Kd.V (Kd.int .u8) 5 _ w.heap.size _ _ ((rd_T35 t445 x15_3).f0.f2) from Kd.V_mk ul455_2 ge455_2); clear hva_ hvn_ hvc_ ge455_2 ul455_2; clear hcc455 hce455; have HR455_2 := Aside0.mk hi455_2; have HC455_2 := Aside0.mk hl455_2; clear hi455_2 hl455_2; replace p455 := eq_true p455; replace q455 := eq_true q455) | ((with_reducible refine gate_builtin (b := .append) (xs := #[.tmp 83, .tmp 88]) rfl ?_); at_builtin; refine Kd.N_append k35 (w0 := w) w.heap.size rfl (.tmp 83) (.tmp 88) 30 35 (.agg #[(.int .i64 0), (.int .i64 0), (.slice none 0 0), (.int .i64 0), (.int .i64 0)]) 56 rfl Try.underlying30 info35 rfl (by decide) (by omega) u14 x14_3 (⟨(⟨(rd_T35 t445 x15_3).f0.f0, (rd_T35 t445 x15_3).f0.f1, (rd_T35 t445 x15_3).f0.f2⟩ : S24), (rd_T35 t445 x15_3).f1, (rd_T35 t445 x15_3).f2⟩ : S35) [.int .i64 ((rd_T35 t445 x15_3).f0.f0), .int .i64 ((rd_T35 t445 x15_3).f0.f1), .slice A455_2 ((rd_T35 t445 x15_3).f0.f2).length c455_2, .int .i64 ((rd_T35 t445 x15_3).f1), .int .i64 ((rd_T35 t445 x15_3).f2)] (fun k_ => some k_ ≠ (.slice (some ad453) t445.length co74 : Value).ownBlock ∧ some k_ ≠ (v450 : Value).ownBlock ∧ some k_ ≠ (.slice Ao17 t423.length co17 : Value).ownBlock ∧ some k_ ≠ (.slice Ao24 t430.length co24 : Value).ownBlock ∧ some k_ ≠ (.slice Ao46 t439.length co46 : Value).ownBlock ∧ k_ ≠ gb419 ∧ k_ ≠ gb427 ∧ k_ ≠ gb434 ∧ k_ ≠ gb443) (fun k_ => ((fun k_ => some k_ ≠ (.slice (some ad453) t445.length co74 : Value).ownBlock ∧ some k_ ≠ (v450 : Value).ownBlock ∧ some k_ ≠ (.slice Ao17 t423.length co17 : Value).ownBlock ∧ some k_ ≠ (.slice Ao24 t430.length co24 : Value).ownBlock ∧ some k_ ≠ (.slice Ao46 t439.length co46 : Value).ownBlock ∧ k_ ≠ gb419 ∧ k_ ≠ gb427 ∧ k_ ≠ gb434 ∧ k_ ≠ gb443)) k_ ∧ some k_ ≠ (u14 : Value).ownBlock) rfl rfl ?aP (fun _ hk => hk) ?aF ?aO ?aB ?aS ?aL ?_; (case aP => exact (k35_mkF _ _ (⟨(⟨(rd_T35 t445 x15_3).f0.f0, (rd_T35 t445 x15_3).f0.f1, (rd_T35 t445 x15_3).f0.f2⟩ : S24), (rd_T35 t445 x15_3).f1, (rd_T35 t445 x15_3).f2⟩ : S35) (Kd.V_reads' (Kd.V_mono (ok' := (fun k_ => ((fun k_ => some k_ ≠ (.slice (some ad453) t445.length co74 : Value).ownBlock ∧ some k_ ≠ (v450 : Value).ownBlock ∧ some k_ ≠ (.slice Ao17 t423.length co17 : Value).ownBlock ∧ some k_ ≠ (.slice Ao24 t430.length co24 : Value).ownBlock ∧ some k_ ≠ (.slice Ao46 t439.length co46 : Value).ownBlock ∧ k_ ≠ gb419 ∧ k_ ≠ gb427 ∧ k_ ≠ gb434 ∧ k_ ≠ gb443)) k_ ∧ some k_ ≠ (u14 : Value).ownBlock)) (HL455_2.out) (fun k_ hk => ⟨⟨hk.2, ⟨hk.1.1, ⟨hk.1.2.2.1, ⟨hk.1.2.2.2.1, ⟨hk.1.2.2.2.2.1, ⟨hk.1.2.2.2.2.2.1, ⟨hk.1.2.2.2.2.2.2.1, ⟨hk.1.2.2.2.2.2.2.2.1, hk.1.2.2.2.2.2.2.2.2⟩⟩⟩⟩⟩⟩⟩⟩, hk.1.2.1⟩))).2.1 (Kd.V_F (Kd.V_mono (ok' := (fun k_ => ((fun k_ => some k_ ≠ (.slice (some ad453) t445.length co74 : Value).ownBlock ∧ some k_ ≠ (v450 : Value).ownBlock ∧ some k_ ≠ (.slice Ao17 t423.length co17 : Value).ownBlock ∧ some k_ ≠ (.slice Ao24 t430.length co24 : Value).ownBlock ∧ some k_ ≠ (.slice Ao46 t439.length co46 : Value).ownBlock ∧ k_ ≠ gb419 ∧ k_ ≠ gb427 ∧ k_ ≠ gb434 ∧ k_ ≠ gb443)) k_ ∧ some k_ ≠ (u14 : Value).ownBlock)) (HL455_2.out) (fun k_ hk => ⟨⟨hk.2, ⟨hk.1.1, ⟨hk.1.2.2.1, ⟨hk.1.2.2.2.1, ⟨hk.1.2.2.2.2.1, ⟨hk.1.2.2.2.2.2.1, ⟨hk.1.2.2.2.2.2.2.1, ⟨hk.1.2.2.2.2.2.2.2.1, hk.1.2.2.2.2.2.2.2.2⟩⟩⟩⟩⟩⟩⟩⟩, hk.1.2.1⟩))))); (case aB => exact bl); (case aF => exact (fun k_ hk => ⟨Kd.fresh' (Kd.N_lt (by (with_reducible repeat (first | apply Kd.N_alloc | apply Kd.N_drewN | apply Kd.N_drew)); exact HO_10.out)) k_ hk, Kd.fresh' (Kd.N_lt (by (with_reducible repeat (first | apply Kd.N_alloc | apply Kd.N_drewN | apply Kd.N_drew)); exact HO_12.out)) k_ hk, Kd.fresh' (Kd.R_lt (rU HO_428002.out)) k_ hk, Kd.fresh' (Kd.R_lt (rU HO_435002.out)) k_ hk, Kd.fresh' (Kd.R_lt (rU HO_444002.out)) k_ hk, Kd.freshB (bU BK419.out) k_ hk, Kd.freshB (bU BK427.out) k_ hk, Kd.freshB (bU BK434.out) k_ hk, Kd.freshB (bU BK443.out) k_ hk⟩)); (case aO => exact (by (with_reducible repeat (first | apply Kd.N_alloc | apply Kd.N_drewN | apply Kd.N_drew)); exact HO_14.out)); (case aS => exact bz); (case aL => have := LMc73.out; omega); intro v457 w76 ho hb hg hat; rw [← Ny456.out] at ho; have n_ := aC (Kd.N_afterv (ok := (fun k_ => some k_ ≠ (v450 : Value).ownBlock ∧ some k_ ≠ (.slice Ao17 t423.length co17 : Value).ownBlock ∧ some k_ ≠ (.slice Ao24 t430.length co24 : Value).ownBlock ∧ some k_ ≠ (.slice Ao46 t439.length co46 : Value).ownBlock ∧ k_ ≠ gb419 ∧ k_ ≠ gb427 ∧ k_ ≠ gb434 ∧ k_ ≠ gb443)) (by (with_reducible repeat (first | apply Kd.N_alloc | apply Kd.N_drewN | apply Kd.N_drew)); exact Kd.N_mono HO_10.out (fun _ hk => ⟨⟨hk.1, ⟨hk.2.2.1, ⟨hk.2.2.2.1, ⟨hk.2.2.2.2.1, ⟨hk.2.2.2.2.2.1, ⟨hk.2.2.2.2.2.2.1, ⟨hk.2.2.2.2.2.2.2.1, hk.2.2.2.2.2.2.2.2⟩⟩⟩⟩⟩⟩⟩, hk.2.1⟩)) hg hat) (aC (Kd.N_afterv (ok := (fun k_ => some k_ ≠ (.slice (some ad453) t445.length co74 : Value).ownBlock ∧ some k_ ≠ (.slice Ao17 t423.length co17 : Value).ownBlock ∧ some k_ ≠ (.slice Ao24 t430.length co24 : Value).ownBlock ∧ some k_ ≠ (.slice Ao46 t439.length co46 : Value).ownBlock ∧ k_ ≠ gb419 ∧ k_ ≠ gb427 ∧ k_ ≠ gb434 ∧ k_ ≠ gb443)) (by (with_reducible repeat (first | apply Kd.N_alloc | apply Kd.N_drewN | apply Kd.N_drew)); exact Kd.N_mono HO_12.out (fun _ hk => ⟨⟨hk.1, ⟨hk.2.2.1, ⟨hk.2.2.2.1, ⟨hk.2.2.2.2.1, ⟨hk.2.2.2.2.2.1, ⟨hk.2.2.2.2.2.2.1, ⟨hk.2.2.2.2.2.2.2.1, hk.2.2.2.2.2.2.2.2⟩⟩⟩⟩⟩⟩⟩, hk.2.1⟩)) hg hat) (aC (Kd.R_over' (rU HO_428002.out) (Kd.N_typed (by (with_reducible repeat (first | apply Kd.N_alloc | apply Kd.N_drewN | apply Kd.N_drew)); exact HO_14.out)) (by decide) hg) (aC (Kd.R_over' (rU HO_435002.out) (Kd.N_typed (by (with_reducible repeat (first | apply Kd.N_alloc | apply Kd.N_drewN | apply Kd.N_drew)); exact HO_14.out)) (by decide) hg) (aC (Kd.R_over' (rU HO_444002.out) (Kd.N_typed (by (with_reducible repeat (first | apply Kd.N_alloc | apply Kd.N_drewN | apply Kd.N_drew)); exact HO_14.out)) (by decide) hg) (aC (blk_grown (bU BK419.out) hg (Kd.N_ne HO_14.out BK419.out (by decide))) (aC (blk_grown (bU BK427.out) hg (Kd.N_ne HO_14.out BK427.out (by decide))) (aC (blk_grown (bU BK434.out) hg (Kd.N_ne HO_14.out BK434.out (by decide))) (aC (blk_grown (bU BK443.out) hg (Kd.N_ne HO_14.out BK443.out (by decide))) (aC (Kd.V_afterv (ok := (fun k_ => some k_ ≠ (.slice (some ad453) t445.length co74 : Value).ownBlock ∧ some k_ ≠ (v450 : Value).ownBlock ∧ some k_ ≠ (.slice Ao17 t423.length co17 : Value).ownBlock ∧ some k_ ≠ (.slice Ao24 t430.length co24 : Value).ownBlock ∧ some k_ ≠ (.slice Ao46 t439.length co46 : Value).ownBlock ∧ k_ ≠ gb419 ∧ k_ ≠ gb427 ∧ k_ ≠ gb434 ∧ k_ ≠ gb443)) (by (with_reducible repeat (first | apply Kd.V_alloc | apply Kd.V_drewN | apply Kd.V_drew)); exact Kd.V_mono HL453_2.out (fun _ hk => ⟨⟨hk.2, ⟨hk.1.1, ⟨hk.1.2.2.1, ⟨hk.1.2.2.2.1, ⟨hk.1.2.2.2.2.1, ⟨hk.1.2.2.2.2.2.1, ⟨hk.1.2.2.2.2.2.2.1, ⟨hk.1.2.2.2.2.2.2.2.1, hk.1.2.2.2.2.2.2.2.2⟩⟩⟩⟩⟩⟩⟩⟩, hk.1.2.1⟩)) hg hat) (aC (Kd.V_afterv (ok := (fun k_ => some k_ ≠ (.slice (some ad453) t445.length co74 : Value).ownBlock ∧ some k_ ≠ (v450 : Value).ownBlock ∧ some k_ ≠ (.slice Ao17 t423.length co17 : Value).ownBlock ∧ some k_ ≠ (.slice Ao24 t430.length co24 : Value).ownBlock ∧ some k_ ≠ (.slice Ao46 t439.length co46 : Value).ownBlock ∧ k_ ≠ gb419 ∧ k_ ≠ gb427 ∧ k_ ≠ gb434 ∧ k_ ≠ gb443)) (by (with_reducible repeat (first | apply Kd.V_alloc | apply Kd.V_drewN | apply Kd.V_drew)); exact Kd.V_mono HL455_2.out (fun _ hk => ⟨⟨hk.2, ⟨hk.1.1, ⟨hk.1.2.2.1, ⟨hk.1.2.2.2.1, ⟨hk.1.2.2.2.2.1, ⟨hk.1.2.2.2.2.2.1, ⟨hk.1.2.2.2.2.2.2.1, ⟨hk.1.2.2.2.2.2.2.2.1, hk.1.2.2.2.2.2.2.2.2⟩⟩⟩⟩⟩⟩⟩⟩, hk.1.2.1⟩)) hg hat) (aC hb (aE ho)))))))))))); clear HO_10 HO_12 HO_428002 HO_435002 HO_444002 BK419 BK427 BK434 BK443 HL453_2 HL455_2 HB HO_14; obtain ⟨HO_10, HO_12, HO_428002, HO_435002, HO_444002, BK419, BK427, BK434, BK443, HL453_2, HL455_2, HB, HO458⟩ := n_; clear ho hb hg hat))
               go_roundg k3
               case measure => have := HJ9.out; have := HJ35.out; have := HK3.out; omega
               case rel => exact ⟨(y456), (wrap64 (x15_3 + 1)), rq, H', ⟨by have := HJ9.out; have := HJ35.out; have := HK3.out; omega⟩, ⟨by (with_reducible repeat (first | apply Kd.N_alloc | apply Kd.N_drewN | apply Kd.N_drew)); exact Kd.N_mono HO_10.out (fun _ hk => ⟨hk.1.1, ⟨hk.2, ⟨hk.1.2.1, ⟨hk.1.2.2.1, ⟨hk.1.2.2.2.1, ⟨hk.1.2.2.2.2.1, ⟨hk.1.2.2.2.2.2.1, ⟨hk.1.2.2.2.2.2.2.1, hk.1.2.2.2.2.2.2.2⟩⟩⟩⟩⟩⟩⟩⟩)⟩, ⟨by (with_reducible repeat (first | apply Kd.N_alloc | apply Kd.N_drewN | apply Kd.N_drew)); exact Kd.N_mono HO_12.out (fun _ hk => ⟨hk.1.1, ⟨hk.2, ⟨hk.1.2.1, ⟨hk.1.2.2.1, ⟨hk.1.2.2.2.1, ⟨hk.1.2.2.2.2.1, ⟨hk.1.2.2.2.2.2.1, ⟨hk.1.2.2.2.2.2.2.1, hk.1.2.2.2.2.2.2.2⟩⟩⟩⟩⟩⟩⟩⟩)⟩, ⟨by (with_reducible repeat (first | apply Kd.N_alloc | apply Kd.N_drewN | apply Kd.N_drew)); exact HO458.out⟩, ⟨rU HO_428002.out⟩, ⟨rU HO_435002.out⟩, ⟨rU HO_444002.out⟩, ⟨by exact bU BK419.out⟩, ⟨by exact bU BK427.out⟩, ⟨by exact bU BK434.out⟩, ⟨by exact bU BK443.out⟩, ⟨bl⟩⟩
              ·rw [if_neg c73] at H
               exact absurd H (by simp)
             ·have H' := Aside0.mk H
              clear H
              obtain ⟨Ao77, co77, eo77⟩ := Kd.N_slice HO_10.out
              subst eo77
              have p453 : 0 ≤ (x15_3 : Int) := dt
              have q453 : x15_3 < (t445.length : Int) := dt
              obtain ⟨ad453, A453_2, c453_2, e453, hx453_0, hx453_1, hx453_2, hx453_3, hx453_4, hl453_2, hi453_2⟩ := at_T35 (Kd.N_reads' HO_10.out).2.2 x15_3 p453 q453
              cases e453
              obtain ⟨ce453, hce453, hMe453, hcc453⟩ := Kd.N_get HO_10.out z35 x15_3 p453 (by first | exact q453 | exact dt | (have e_ := (Kd.N_reads' HO_10.out).1; omega))
              obtain ⟨ua453_2, uc453_2, rfl, ul453_2, ge453_2⟩ := k35_openF hMe453
              have hv453_2 := hcc453 2 _ rfl
              rw [add_field _ _ 2 (by omega)] at hv453_2
              replace hv453_2 := Option.some.inj (hv453_2.symm.trans hx453_2)
              injection hv453_2 with hva_ hvn_ hvc_
              rw [hva_] at ge453_2
              rw [hvc_] at ul453_2
              have HL453_2 := Aside0.mk (show Kd.V (Kd.int .u8) 5 _ w.heap.size _ _ ((rd_T35 t445 x15_3).f0.f2) from Kd.V_mk ul453_2 ge453_2)
              clear hva_ hvn_ hvc_ ge453_2 ul453_2
              clear hcc453 hce453
              have HR453_2 := Aside0.mk hi453_2
              have HC453_2 := Aside0.mk hl453_2
              clear hi453_2 hl453_2
              replace p453 := eq_true p453
              replace q453 := eq_true q453
              go_wp2_with (first | ((with_reducible refine gf 9 rfl ?_); refine gL (some 80) rfl rfl Try.func9 rfl #[.agg #[.int .i64 ((rd_T35 t445 x15_3).f0.f0), .int .i64 ((rd_T35 t445 x15_3).f0.f1), .slice A453_2 ((rd_T35 t445 x15_3).f0.f2).length c453_2]] rfl ?_; (with_reducible refine (incunableref05_Blacks.calls k3 ((rd_T35 t445 x15_3).f0.f0) ((rd_T35 t445 x15_3).f0.f1) _ _ ((rd_T35 t445 x15_3).f0.f2) t454 _ ?side1 ?side2 A71.out).mono ?_); (case side1 => repeat (first | exact (by repeat (first | (with_reducible exact HR453_2.out) | (with_reducible refine Kd.C_alloc ?_ _) | (with_reducible refine Kd.C_drewN ?_ _) | (with_reducible refine Kd.C_drew ?_) | exact HR453_2.out)) | (with_reducible refine Kd.C_alloc ?_ _) | (with_reducible refine Kd.C_drewN ?_ _) | (with_reducible refine Kd.C_drew ?_))); (case side2 => exact HC453_2.out); rintro e w78 ⟨rfl, hb⟩; refine ⟨_, rfl, ?_⟩; have n_ := aC (Kd.N_below (by (with_reducible repeat (first | apply Kd.N_alloc | apply Kd.N_drewN | apply Kd.N_drew)); exact HO_10.out) hb) (aC (Kd.N_below (by (with_reducible repeat (first | apply Kd.N_alloc | apply Kd.N_drewN | apply Kd.N_drew)); exact HO_12.out) hb) (aC (Kd.N_below (by (with_reducible repeat (first | apply Kd.N_alloc | apply Kd.N_drewN | apply Kd.N_drew)); exact HO_14.out) hb) (aC (Kd.R_below (rU HO_428002.out) hb) (aC (Kd.R_below (rU HO_435002.out) hb) (aC (Kd.R_below (rU HO_444002.out) hb) (aC (Kd.V_below (by (with_reducible repeat (first | apply Kd.V_alloc | apply Kd.V_drewN | apply Kd.V_drew)); exact HL453_2.out) hb) (aC (blk_below (bU BK419.out) hb) (aC (blk_below (bU BK427.out) hb) (aC (blk_below (bU BK434.out) hb) (aC (blk_below (bU BK443.out) hb) (aC (Kd.C_below (by repeat (first | (with_reducible exact HR453_2.out) | (with_reducible refine Kd.C_alloc ?_ _) | (with_reducible refine Kd.C_drewN ?_ _) | (with_reducible refine Kd.C_drew ?_) | exact HR453_2.out)) hb) (aE (bs hb))))))))))))); clear HO_10 HO_12 HO_14 HO_428002 HO_435002 HO_444002 HL453_2 BK419 BK427 BK434 BK443 HR453_2 HB; obtain ⟨HO_10, HO_12, HO_14, HO_428002, HO_435002, HO_444002, HL453_2, BK419, BK427, BK434, BK443, HR453_2, HB⟩ := n_))
              go_roundg k3
              case measure => have := HJ9.out; have := HJ35.out; have := HK3.out; omega
              case rel => exact ⟨(x14_3), (wrap64 (x15_3 + 1)), rq, H', ⟨by have := HJ9.out; have := HJ35.out; have := HK3.out; omega⟩, ⟨by (with_reducible repeat (first | apply Kd.N_alloc | apply Kd.N_drewN | apply Kd.N_drew)); exact HO_10.out⟩, ⟨by (with_reducible repeat (first | apply Kd.N_alloc | apply Kd.N_drewN | apply Kd.N_drew)); exact HO_12.out⟩, ⟨by (with_reducible repeat (first | apply Kd.N_alloc | apply Kd.N_drewN | apply Kd.N_drew)); exact HO_14.out⟩, ⟨rU HO_428002.out⟩, ⟨rU HO_435002.out⟩, ⟨rU HO_444002.out⟩, ⟨by exact bU BK419.out⟩, ⟨by exact bU BK427.out⟩, ⟨by exact bU BK434.out⟩, ⟨by exact bU BK443.out⟩, ⟨bl⟩⟩
            ·rw [if_neg c70] at H
             exact absurd H (by simp)
           ·obtain ⟨t459, A79, H⟩ := oB H
            try dsimp only at H
            by_cases c80 : t459 = true
            ·subst c80
             rw [if_pos rfl] at H
             obtain ⟨t460, A81, H⟩ := oB H
             try dsimp only at H
             obtain rfl := Option.some.inj H
             obtain ⟨Ao82, co82, eo82⟩ := Kd.N_slice HO_10.out
             subst eo82
             obtain ⟨Ao83, co83, eo83⟩ := Kd.N_slice HO_12.out
             subst eo83
             obtain ⟨Ao84, co84, eo84⟩ := Kd.N_slice HO_14.out
             subst eo84
             go_wp2_with (first | ((with_reducible refine gf 10 rfl ?_); refine gL (some 92) rfl rfl Try.func10 rfl #[.slice Ao83 t449.length co83, .slice Ao84 x14_3.length co84] rfl ?_; (with_reducible refine (incunableref15_SamePlaced.calls k3 _ _ t449 _ _ x14_3 true _ ?side1 ?side2 ?side3 ?side4 A79.out).mono ?_); (case side1 => exact cU (Kd.N_reads' HO_12.out).2.2); (case side2 => exact (Kd.N_reads' HO_12.out).2.1); (case side3 => exact cU (Kd.N_reads' HO_14.out).2.2); (case side4 => exact (Kd.N_reads' HO_14.out).2.1); rintro e w85 ⟨rfl, hb⟩; refine ⟨_, rfl, ?_⟩; have n_ := aC (Kd.N_below (by (with_reducible repeat (first | apply Kd.N_alloc | apply Kd.N_drewN | apply Kd.N_drew)); exact HO_10.out) hb) (aC (Kd.N_below (by (with_reducible repeat (first | apply Kd.N_alloc | apply Kd.N_drewN | apply Kd.N_drew)); exact HO_12.out) hb) (aC (Kd.N_below (by (with_reducible repeat (first | apply Kd.N_alloc | apply Kd.N_drewN | apply Kd.N_drew)); exact HO_14.out) hb) (aC (Kd.R_below (rU HO_428002.out) hb) (aC (Kd.R_below (rU HO_435002.out) hb) (aC (Kd.R_below (rU HO_444002.out) hb) (aC (blk_below (bU BK419.out) hb) (aC (blk_below (bU BK427.out) hb) (aC (blk_below (bU BK434.out) hb) (aC (blk_below (bU BK443.out) hb) (aE (bs hb))))))))))); clear HO_10 HO_12 HO_14 HO_428002 HO_435002 HO_444002 BK419 BK427 BK434 BK443 HB; obtain ⟨HO_10, HO_12, HO_14, HO_428002, HO_435002, HO_444002, BK419, BK427, BK434, BK443, HB⟩ := n_) | (go_at_call 4; (with_reducible refine (incunablelaw29_Sane.calls k3  t460 _ A81.out).mono ?_); rintro e w86 ⟨rfl, hb⟩; have n_ := aC (Kd.N_below (by (with_reducible repeat (first | apply Kd.N_alloc | apply Kd.N_drewN | apply Kd.N_drew)); exact HO_10.out) hb) (aC (Kd.N_below (by (with_reducible repeat (first | apply Kd.N_alloc | apply Kd.N_drewN | apply Kd.N_drew)); exact HO_12.out) hb) (aC (Kd.N_below (by (with_reducible repeat (first | apply Kd.N_alloc | apply Kd.N_drewN | apply Kd.N_drew)); exact HO_14.out) hb) (aC (Kd.R_below (rU HO_428002.out) hb) (aC (Kd.R_below (rU HO_435002.out) hb) (aC (Kd.R_below (rU HO_444002.out) hb) (aC (blk_below (bU BK419.out) hb) (aC (blk_below (bU BK427.out) hb) (aC (blk_below (bU BK434.out) hb) (aC (blk_below (bU BK443.out) hb) (aE (bs hb))))))))))); clear HO_10 HO_12 HO_14 HO_428002 HO_435002 HO_444002 BK419 BK427 BK434 BK443 HB; obtain ⟨HO_10, HO_12, HO_14, HO_428002, HO_435002, HO_444002, BK419, BK427, BK434, BK443, HB⟩ := n_))
             go_ret
             exact ⟨re, bl⟩
            ·replace c80 := Bool.eq_false_iff.mpr c80
             subst c80
             rw [if_neg Bool.false_ne_true] at H
             exact absurd ((Option.some.inj H).trans HR_.out) (by decide)
     ·obtain ⟨t436, A87, H⟩ := oB H
      try dsimp only at H
      obtain rfl := Option.some.inj H
      go_wp2_with (first | ((with_reducible refine gf 4 rfl ?_); refine gL (some 44) rfl rfl Try.func4 rfl #[] rfl ?_; (with_reducible refine (incunablelaw29_Sane.calls kj9  t436 _ A87.out).mono ?_); rintro e w88 ⟨rfl, hb⟩; refine ⟨_, rfl, ?_⟩; have n_ := aC (Kd.R_below (rU HO_428002.out) hb) (aC (Kd.R_below (rU HO_435002.out) hb) (aC (blk_below (bU BK419.out) hb) (aC (blk_below (bU BK427.out) hb) (aC (blk_below (bU BK434.out) hb) (aE (bs hb)))))); clear HO_428002 HO_435002 BK419 BK427 BK434 HB; obtain ⟨HO_428002, HO_435002, BK419, BK427, BK434, HB⟩ := n_))
      go_ret
      exact ⟨re, bl⟩
def incunablelaw29_ScanSpecks.Pure : Prop := ∀ (a0_0 : Int) (a0_1 : Int) (l0_2 : List Int) (a1 : Int), ((Lit.int .i64 a0_0).wf = true) → ((Lit.int .i64 a0_1).wf = true) → (l0_2.length ≤ 9223372036854775807 ∧ l0_2.length * 1 ≤ 140737488351232 ∧ ∀ y0_ ∈ l0_2, (Lit.int .u8 y0_).wf = true) → ((Lit.int .i64 a1).wf = true) → ∃ k, incunablelaw29_ScanSpecks.f k a0_0 a0_1 l0_2 a1 = some true
theorem incunablelaw29_ScanSpecks.walk (P : incunablelaw29_ScanSpecks.Pure) (a0_0 : Int) (a0_1 : Int) (A0_2 : Option Addr) (c0_2 : Nat) (l0_2 : List Int) (a1 : Int) (w : World) (hr0_2 : Kd.C (Kd.int .u8) w A0_2 l0_2.length l0_2) (hc0_2 : l0_2.length ≤ c0_2) (g0_0 : (Lit.int .i64 a0_0).wf = true) (g0_1 : (Lit.int .i64 a0_1).wf = true) (g0_2 : l0_2.length ≤ 9223372036854775807 ∧ l0_2.length * 1 ≤ 140737488351232 ∧ ∀ y0_ ∈ l0_2, (Lit.int .u8 y0_).wf = true) (g1 : (Lit.int .i64 a1).wf = true) :
  Calls Try.prog 3 #[.agg #[.int .i64 a0_0, .int .i64 a0_1, .slice A0_2 l0_2.length c0_2], .int .i64 a1] w fun e w' => e = .returned (.bool true) ∧ Below w.heap.size w w' := by
 obtain ⟨k, h⟩ := P a0_0 a0_1 l0_2 a1 g0_0 g0_1 g0_2 g1
 refine (incunablelaw29_ScanSpecks.calls k a0_0 a0_1 A0_2 c0_2 l0_2 a1 true w hr0_2 hc0_2 h rfl).mono ?_
 rintro e w' ⟨rfl, hd⟩
 exact ⟨rfl, hd⟩
end Go.Proofs.Ytnnbfkmmjclhaaa.PScanSpecks
