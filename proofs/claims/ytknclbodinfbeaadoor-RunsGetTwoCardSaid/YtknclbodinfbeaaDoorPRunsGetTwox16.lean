-- Written by a program of this session (wip/tools/myprint.py) over the kit's print. Not trusted: Lean checks it.
import Derived.Test.YtknclbodinfbeaaDoorPRunsGetTwox0
import Derived.Test.YtknclbodinfbeaaDoorPRunsGetTwox12
import Derived.Test.YtknclbodinfbeaaDoorPRunsGetTwox13
import Derived.Test.YtknclbodinfbeaaDoorPRunsGetTwox15
namespace Go.Proofs.YtknclbodinfbeaaDoor.PRunsGetTwo
open Go.RowKit Go.Proofs.YtknclbodinfbeaaDoorW.PrintWords Go.Proofs.YtknclbodinfbeaaDoorW.PrintLast Go.Proofs.YtknclbodinfbeaaDoorW.PrintMore
attribute [local go_sem] max2_int min2_int max_two min_two max_three min_three max_four min_four   -- for this text's walks alone
set_option linter.unusedVariables false
set_option linter.unusedSimpArgs false
def incunableref06_run.f (k : Nat) (l0 : List Int) (a1 : Int) (a2 : Int) : Option (Int × Int × Int) := (incunableref04_Standard.f 0).bind fun t472 => ((incunableref04_Take.f k t472 l0 a1).bind fun bt475 => (if bt475.2.2.2 = 0 then ((incunableref06_table.f a2).bind fun t480 => ((incunableref04_Take.f k t480 l0 bt475.2.2.1).bind fun bt483 => (if bt483.2.2.2 = 0 then (if bt483.2.1 > 63 then (some (0, 0, 3)) else (some (wrap64 ((wrap64 (64 * bt475.2.1)) + bt483.2.1), bt483.2.2.1, 0))) else (some (0, 0, bt483.2.2.2))))) else (some (0, 0, bt475.2.2.2))))
theorem incunableref06_run.mono : ∀ a0 a1 a2 k, LeO (incunableref06_run.f k a0 a1 a2) (incunableref06_run.f (k + 1) a0 a1 a2) := by
 intro a0 a1 a2 k
 unfold incunableref06_run.f
 repeat' first
   | (with_reducible exact incunableref04_Take.mono _ _ _ _)
   | (with_reducible first | exact LeO.refl _ | exact LeO.none _ | refine LeO.ite ?_ ?_ | refine LeO.bind ?_ (fun _ => ?_))
   | exact incunableref04_Take.mono _ _ _ _
   | exact LeO.none _ | refine LeO.ite ?_ ?_ | refine LeO.bind ?_ (fun _ => ?_)
set_option maxHeartbeats 8000000 in
set_option maxRecDepth 100000 in
theorem incunableref06_run.calls (k : Nat) (A0 : Option Addr) (c0 : Nat) (l0 : List Int) (a1 : Int) (a2 : Int) (r1 : Int) (r2 : Int) (r3 : Int) (w : World) (hr0 : Kd.C (Kd.int .u8) w A0 l0.length l0) (hc0 : l0.length ≤ c0) (h : incunableref06_run.f k l0 a1 a2 = some (r1, r2, r3)) :
  Calls Tryd.prog 101 #[.slice A0 l0.length c0, .int .i64 a1, .int .i64 a2] w fun e w' => e = .returned (.tuple #[.int .i64 r1, .int .i64 r2, .int .i64 r3]) ∧ Below w.heap.size w w' := by
 have hu64 := Tryd.underlying64
 have HR0 := Aside0.mk hr0
 have HC0 := Aside0.mk hc0
 clear hr0 hc0
 have HB := Aside0.mk (Below.refl w.heap.size w)
 have H : ((incunableref04_Standard.f 0).bind fun t472 => ((incunableref04_Take.f k t472 l0 a1).bind fun bt475 => (if bt475.2.2.2 = 0 then ((incunableref06_table.f a2).bind fun t480 => ((incunableref04_Take.f k t480 l0 bt475.2.2.1).bind fun bt483 => (if bt483.2.2.2 = 0 then (if bt483.2.1 > 63 then (some (0, 0, 3)) else (some (wrap64 ((wrap64 (64 * bt475.2.1)) + bt483.2.1), bt483.2.2.1, 0))) else (some (0, 0, bt483.2.2.2))))) else (some (0, 0, bt475.2.2.2))))) = some (r1, r2, r3) := h
 clear h
 replace H := Option.bind_eq_some_iff.mp H
 obtain ⟨t472, A40, H⟩ := H
 replace H : ((incunableref04_Take.f k t472 l0 a1).bind fun bt475 => (if bt475.2.2.2 = 0 then ((incunableref06_table.f a2).bind fun t480 => ((incunableref04_Take.f k t480 l0 bt475.2.2.1).bind fun bt483 => (if bt483.2.2.2 = 0 then (if bt483.2.1 > 63 then (some (0, 0, 3)) else (some (wrap64 ((wrap64 (64 * bt475.2.1)) + bt483.2.1), bt483.2.2.1, 0))) else (some (0, 0, bt483.2.2.2))))) else (some (0, 0, bt475.2.2.2)))) = some (r1, r2, r3) := H
 have A4 := Aside0.mk A40
 clear A40
 replace H := Option.bind_eq_some_iff.mp H
 obtain ⟨⟨t475, t476, t477, t478⟩, A50, H⟩ := H
 replace H : (if t478 = 0 then ((incunableref06_table.f a2).bind fun t480 => ((incunableref04_Take.f k t480 l0 t477).bind fun bt483 => (if bt483.2.2.2 = 0 then (if bt483.2.1 > 63 then (some (0, 0, 3)) else (some (wrap64 ((wrap64 (64 * t476)) + bt483.2.1), bt483.2.2.1, 0))) else (some (0, 0, bt483.2.2.2))))) else (some (0, 0, t478))) = some (r1, r2, r3) := H
 have A5 := Aside0.mk A50
 clear A50
 by_cases c6 : t478 = 0
 ·rw [if_pos c6] at H
  have c6b0 := beq_iff_eq.mpr c6
  have c6b1 := bne_eq_false_iff_eq.mpr c6
  clear c6
  replace H := Option.bind_eq_some_iff.mp H
  obtain ⟨t480, A70, H⟩ := H
  replace H : ((incunableref04_Take.f k t480 l0 t477).bind fun bt483 => (if bt483.2.2.2 = 0 then (if bt483.2.1 > 63 then (some (0, 0, 3)) else (some (wrap64 ((wrap64 (64 * t476)) + bt483.2.1), bt483.2.2.1, 0))) else (some (0, 0, bt483.2.2.2)))) = some (r1, r2, r3) := H
  have A7 := Aside0.mk A70
  clear A70
  replace H := Option.bind_eq_some_iff.mp H
  obtain ⟨⟨t483, t484, t485, t486⟩, A80, H⟩ := H
  replace H : (if t486 = 0 then (if t484 > 63 then (some (0, 0, 3)) else (some (wrap64 ((wrap64 (64 * t476)) + t484), t485, 0))) else (some (0, 0, t486))) = some (r1, r2, r3) := H
  have A8 := Aside0.mk A80
  clear A80
  by_cases c9 : t486 = 0
  ·rw [if_pos c9] at H
   have c9b0 := beq_iff_eq.mpr c9
   have c9b1 := bne_eq_false_iff_eq.mpr c9
   clear c9
   by_cases c10 : t484 > 63
   ·rw [if_pos c10] at H
    have c10b0 := decide_eq_true c10
    clear c10
    simp only [Option.some.injEq, Prod.mk.injEq] at H
    obtain ⟨rfl, rfl, rfl⟩ := H
    go_enter Tryd.func101, Tryd.ntmps101
    go_wp2_with (first | ((with_reducible refine gf 38 rfl ?_); refine gL (some 14) rfl rfl Tryd.func38 rfl #[.int .i64 0] rfl ?_; (with_reducible refine (incunableref04_Standard.calls 0 t472 _ A4.out).mono ?_); rintro e w11 ⟨v473, rfl, ho0, hb⟩; refine ⟨_, rfl, ?_⟩; have n_ := aC (Kd.R_lower ho0 bz) (aE (bs hb)); clear HB; obtain ⟨HO474, HB⟩ := n_; (try clear hb); (try clear ho0); obtain ⟨Ao12, co12, eo12⟩ := Kd.R_slice HO474.out; subst eo12) | ((with_reducible refine gf 115 rfl ?_); refine gL (some 17) rfl rfl Tryd.func115 rfl #[.slice Ao12 t472.length co12, .slice A0 l0.length c0, .int .i64 a1] rfl ?_; (with_reducible refine (incunableref04_Take.calls k _ _ t472 _ _ l0 a1 t475 t476 t477 t478 _ ?side1 ?side2 ?side3 ?side4 A5.out).mono ?_); (case side1 => exact cU (Kd.R_reads' HO474.out).2.2); (case side2 => exact (Kd.R_reads' HO474.out).2.1); (case side3 => exact cU (Kd.C_below HR0.out HB.out)); (case side4 => exact HC0.out); rintro e w13 ⟨rfl, hb⟩; refine ⟨_, rfl, ?_⟩; have n_ := aC (Kd.R_below (rU HO474.out) hb) (aE (bs hb)); clear HO474 HB; obtain ⟨HO474, HB⟩ := n_; (try clear hb)) | ((with_reducible refine gd 9 rfl ?_); refine bx 9 #[.bool false, .int .i64 0] 64 rfl rfl ?_; intro gb479 hg w14 hbox hb; have n_ := aC (Kd.R_below (rU HO474.out) hb) (aC (bs hb) (aC hbox (aC (gz hg) (aE (gz hg))))); clear HO474 HB; obtain ⟨HO474, HB, BK479, GW479, GE479⟩ := n_; clear hb hbox hg; obtain ⟨hcz15_0, hcz15_1, hfz15_0, hfz15_1⟩ := cz2f BK479.out) | ((with_reducible refine gf 39 rfl ?_); refine gL (some 26) rfl rfl Tryd.func39 rfl #[.int .i64 a2] rfl ?_; (with_reducible refine (incunableref06_table.calls a2 t480 _ A7.out).mono ?_); rintro e w16 ⟨v481, rfl, ho0, hb⟩; refine ⟨_, rfl, ?_⟩; have n_ := aC (Kd.R_elder' (rU (Kd.R_mono (Kd.R_far (p := ⟨gb479, 1, none⟩) (Kd.R_far (p := ⟨gb479, 0, none⟩) (Kd.R_types HO474.out BK479.out (by decide)) (fun _ hk => hk.2) (.bool t475)) (fun _ hk => hk.2) (.int .i64 t476)) (fun _ h_ => h_.1))) (Kd.R_base ho0) hb) (aC (Kd.R_lower (Kd.R_new' ho0 (Kd.R_lt (rU (Kd.R_mono (Kd.R_far (p := ⟨gb479, 1, none⟩) (Kd.R_far (p := ⟨gb479, 0, none⟩) (Kd.R_types HO474.out BK479.out (by decide)) (fun _ hk => hk.2) (.bool t475)) (fun _ hk => hk.2) (.int .i64 t476)) (fun _ h_ => h_.1))))) bz) (aC (blk_below (g := gb479) (o := .cells #[.bool t475, .int .i64 t476] 64 (0, 0)) (by (with_reducible repeat (first | refine blk_drewN ?_ _ | refine blk_drew ?_ | refine blk_alloc ?_ _)); refine blk_put (cs := #[.bool t475, .int .i64 0]) ?_ 1 _ rfl; (with_reducible repeat (first | refine blk_drewN ?_ _ | refine blk_drew ?_ | refine blk_alloc ?_ _)); refine blk_put (cs := #[.bool false, .int .i64 0]) ?_ 0 _ rfl; (with_reducible repeat (first | refine blk_drewN ?_ _ | refine blk_drew ?_ | refine blk_alloc ?_ _)); exact BK479.out) hb) (aE (bs hb)))); clear HO474 BK479 HB; obtain ⟨HO474, HO482, BK479, HB⟩ := n_; (try clear hb); (try clear ho0); obtain ⟨Ao17, co17, eo17⟩ := Kd.R_slice HO482.out; subst eo17) | ((with_reducible refine gf 115 rfl ?_); refine gL (some 29) rfl rfl Tryd.func115 rfl #[.slice Ao17 t480.length co17, .slice A0 l0.length c0, .int .i64 t477] rfl ?_; (with_reducible refine (incunableref04_Take.calls k _ _ t480 _ _ l0 t477 t483 t484 t485 t486 _ ?side1 ?side2 ?side3 ?side4 A8.out).mono ?_); (case side1 => exact cU (Kd.R_reads' HO482.out).2.2); (case side2 => exact (Kd.R_reads' HO482.out).2.1); (case side3 => exact cU (Kd.C_below HR0.out HB.out)); (case side4 => exact HC0.out); rintro e w18 ⟨rfl, hb⟩; refine ⟨_, rfl, ?_⟩; have n_ := aC (Kd.R_below (rU HO474.out) hb) (aC (Kd.R_below (rU HO482.out) hb) (aC (blk_below (bU BK479.out) hb) (aE (bs hb)))); clear HO474 HO482 BK479 HB; obtain ⟨HO474, HO482, BK479, HB⟩ := n_; (try clear hb)) | ((with_reducible refine gd 12 rfl ?_); refine bx 12 #[.bool false, .int .i64 0] 64 rfl rfl ?_; intro gb487 hg w19 hbox hb; have n_ := aC (Kd.R_below (rU HO474.out) hb) (aC (Kd.R_below (rU HO482.out) hb) (aC (blk_below (bU BK479.out) hb) (aC (bs hb) (aC hbox (aC (gz hg) (aC (gz hg) (aC (gn hg (bU BK479.out)) (aE (gm hg (bU BK479.out)))))))))); clear HO474 HO482 BK479 HB; obtain ⟨HO474, HO482, BK479, HB, BK487, GW487, GE487, NB479_487, NB487_479⟩ := n_; clear hb hbox hg; have hnb20 := NB487_479.out; have hnc20 := NB479_487.out; obtain ⟨hcz21_0, hcz21_1, hfz21_0, hfz21_1⟩ := cz2f BK487.out))
    go_ret3
    exact ⟨re, bl⟩
   ·rw [if_neg c10] at H
    have c10b0 := decide_eq_false c10
    clear c10
    simp only [Option.some.injEq, Prod.mk.injEq] at H
    obtain ⟨rfl, rfl, rfl⟩ := H
    go_enter Tryd.func101, Tryd.ntmps101
    go_wp2_with (first | ((with_reducible refine gf 38 rfl ?_); refine gL (some 14) rfl rfl Tryd.func38 rfl #[.int .i64 0] rfl ?_; (with_reducible refine (incunableref04_Standard.calls 0 t472 _ A4.out).mono ?_); rintro e w22 ⟨v473, rfl, ho0, hb⟩; refine ⟨_, rfl, ?_⟩; have n_ := aC (Kd.R_lower ho0 bz) (aE (bs hb)); clear HB; obtain ⟨HO474, HB⟩ := n_; (try clear hb); (try clear ho0); obtain ⟨Ao23, co23, eo23⟩ := Kd.R_slice HO474.out; subst eo23) | ((with_reducible refine gf 115 rfl ?_); refine gL (some 17) rfl rfl Tryd.func115 rfl #[.slice Ao23 t472.length co23, .slice A0 l0.length c0, .int .i64 a1] rfl ?_; (with_reducible refine (incunableref04_Take.calls k _ _ t472 _ _ l0 a1 t475 t476 t477 t478 _ ?side1 ?side2 ?side3 ?side4 A5.out).mono ?_); (case side1 => exact cU (Kd.R_reads' HO474.out).2.2); (case side2 => exact (Kd.R_reads' HO474.out).2.1); (case side3 => exact cU (Kd.C_below HR0.out HB.out)); (case side4 => exact HC0.out); rintro e w24 ⟨rfl, hb⟩; refine ⟨_, rfl, ?_⟩; have n_ := aC (Kd.R_below (rU HO474.out) hb) (aE (bs hb)); clear HO474 HB; obtain ⟨HO474, HB⟩ := n_; (try clear hb)) | ((with_reducible refine gd 9 rfl ?_); refine bx 9 #[.bool false, .int .i64 0] 64 rfl rfl ?_; intro gb479 hg w25 hbox hb; have n_ := aC (Kd.R_below (rU HO474.out) hb) (aC (bs hb) (aC hbox (aC (gz hg) (aE (gz hg))))); clear HO474 HB; obtain ⟨HO474, HB, BK479, GW479, GE479⟩ := n_; clear hb hbox hg; obtain ⟨hcz26_0, hcz26_1, hfz26_0, hfz26_1⟩ := cz2f BK479.out) | ((with_reducible refine gf 39 rfl ?_); refine gL (some 26) rfl rfl Tryd.func39 rfl #[.int .i64 a2] rfl ?_; (with_reducible refine (incunableref06_table.calls a2 t480 _ A7.out).mono ?_); rintro e w27 ⟨v481, rfl, ho0, hb⟩; refine ⟨_, rfl, ?_⟩; have n_ := aC (Kd.R_elder' (rU (Kd.R_mono (Kd.R_far (p := ⟨gb479, 1, none⟩) (Kd.R_far (p := ⟨gb479, 0, none⟩) (Kd.R_types HO474.out BK479.out (by decide)) (fun _ hk => hk.2) (.bool t475)) (fun _ hk => hk.2) (.int .i64 t476)) (fun _ h_ => h_.1))) (Kd.R_base ho0) hb) (aC (Kd.R_lower (Kd.R_new' ho0 (Kd.R_lt (rU (Kd.R_mono (Kd.R_far (p := ⟨gb479, 1, none⟩) (Kd.R_far (p := ⟨gb479, 0, none⟩) (Kd.R_types HO474.out BK479.out (by decide)) (fun _ hk => hk.2) (.bool t475)) (fun _ hk => hk.2) (.int .i64 t476)) (fun _ h_ => h_.1))))) bz) (aC (blk_below (g := gb479) (o := .cells #[.bool t475, .int .i64 t476] 64 (0, 0)) (by (with_reducible repeat (first | refine blk_drewN ?_ _ | refine blk_drew ?_ | refine blk_alloc ?_ _)); refine blk_put (cs := #[.bool t475, .int .i64 0]) ?_ 1 _ rfl; (with_reducible repeat (first | refine blk_drewN ?_ _ | refine blk_drew ?_ | refine blk_alloc ?_ _)); refine blk_put (cs := #[.bool false, .int .i64 0]) ?_ 0 _ rfl; (with_reducible repeat (first | refine blk_drewN ?_ _ | refine blk_drew ?_ | refine blk_alloc ?_ _)); exact BK479.out) hb) (aE (bs hb)))); clear HO474 BK479 HB; obtain ⟨HO474, HO482, BK479, HB⟩ := n_; (try clear hb); (try clear ho0); obtain ⟨Ao28, co28, eo28⟩ := Kd.R_slice HO482.out; subst eo28) | ((with_reducible refine gf 115 rfl ?_); refine gL (some 29) rfl rfl Tryd.func115 rfl #[.slice Ao28 t480.length co28, .slice A0 l0.length c0, .int .i64 t477] rfl ?_; (with_reducible refine (incunableref04_Take.calls k _ _ t480 _ _ l0 t477 t483 t484 t485 t486 _ ?side1 ?side2 ?side3 ?side4 A8.out).mono ?_); (case side1 => exact cU (Kd.R_reads' HO482.out).2.2); (case side2 => exact (Kd.R_reads' HO482.out).2.1); (case side3 => exact cU (Kd.C_below HR0.out HB.out)); (case side4 => exact HC0.out); rintro e w29 ⟨rfl, hb⟩; refine ⟨_, rfl, ?_⟩; have n_ := aC (Kd.R_below (rU HO474.out) hb) (aC (Kd.R_below (rU HO482.out) hb) (aC (blk_below (bU BK479.out) hb) (aE (bs hb)))); clear HO474 HO482 BK479 HB; obtain ⟨HO474, HO482, BK479, HB⟩ := n_; (try clear hb)) | ((with_reducible refine gd 12 rfl ?_); refine bx 12 #[.bool false, .int .i64 0] 64 rfl rfl ?_; intro gb487 hg w30 hbox hb; have n_ := aC (Kd.R_below (rU HO474.out) hb) (aC (Kd.R_below (rU HO482.out) hb) (aC (blk_below (bU BK479.out) hb) (aC (bs hb) (aC hbox (aC (gz hg) (aC (gz hg) (aC (gn hg (bU BK479.out)) (aE (gm hg (bU BK479.out)))))))))); clear HO474 HO482 BK479 HB; obtain ⟨HO474, HO482, BK479, HB, BK487, GW487, GE487, NB479_487, NB487_479⟩ := n_; clear hb hbox hg; have hnb31 := NB487_479.out; have hnc31 := NB479_487.out; obtain ⟨hcz32_0, hcz32_1, hfz32_0, hfz32_1⟩ := cz2f BK487.out; obtain ⟨hcz33_0, hcz33_1, hfz33_0, hfz33_1⟩ := cz2f BK479.out))
    go_ret3
    exact ⟨re, bl⟩
  ·rw [if_neg c9] at H
   have c9b0 := beq_eq_false_iff_ne.mpr c9
   have c9b1 := bne_iff_ne.mpr c9
   simp only [Option.some.injEq, Prod.mk.injEq] at H
   obtain ⟨rfl, rfl, rfl⟩ := H
   go_enter Tryd.func101, Tryd.ntmps101
   go_wp2_with (first | ((with_reducible refine gf 38 rfl ?_); refine gL (some 14) rfl rfl Tryd.func38 rfl #[.int .i64 0] rfl ?_; (with_reducible refine (incunableref04_Standard.calls 0 t472 _ A4.out).mono ?_); rintro e w34 ⟨v473, rfl, ho0, hb⟩; refine ⟨_, rfl, ?_⟩; have n_ := aC (Kd.R_lower ho0 bz) (aE (bs hb)); clear HB; obtain ⟨HO474, HB⟩ := n_; (try clear hb); (try clear ho0); obtain ⟨Ao35, co35, eo35⟩ := Kd.R_slice HO474.out; subst eo35) | ((with_reducible refine gf 115 rfl ?_); refine gL (some 17) rfl rfl Tryd.func115 rfl #[.slice Ao35 t472.length co35, .slice A0 l0.length c0, .int .i64 a1] rfl ?_; (with_reducible refine (incunableref04_Take.calls k _ _ t472 _ _ l0 a1 t475 t476 t477 t478 _ ?side1 ?side2 ?side3 ?side4 A5.out).mono ?_); (case side1 => exact cU (Kd.R_reads' HO474.out).2.2); (case side2 => exact (Kd.R_reads' HO474.out).2.1); (case side3 => exact cU (Kd.C_below HR0.out HB.out)); (case side4 => exact HC0.out); rintro e w36 ⟨rfl, hb⟩; refine ⟨_, rfl, ?_⟩; have n_ := aC (Kd.R_below (rU HO474.out) hb) (aE (bs hb)); clear HO474 HB; obtain ⟨HO474, HB⟩ := n_; (try clear hb)) | ((with_reducible refine gd 9 rfl ?_); refine bx 9 #[.bool false, .int .i64 0] 64 rfl rfl ?_; intro gb479 hg w37 hbox hb; have n_ := aC (Kd.R_below (rU HO474.out) hb) (aC (bs hb) (aC hbox (aC (gz hg) (aE (gz hg))))); clear HO474 HB; obtain ⟨HO474, HB, BK479, GW479, GE479⟩ := n_; clear hb hbox hg; obtain ⟨hcz38_0, hcz38_1, hfz38_0, hfz38_1⟩ := cz2f BK479.out) | ((with_reducible refine gf 39 rfl ?_); refine gL (some 26) rfl rfl Tryd.func39 rfl #[.int .i64 a2] rfl ?_; (with_reducible refine (incunableref06_table.calls a2 t480 _ A7.out).mono ?_); rintro e w39 ⟨v481, rfl, ho0, hb⟩; refine ⟨_, rfl, ?_⟩; have n_ := aC (Kd.R_elder' (rU (Kd.R_mono (Kd.R_far (p := ⟨gb479, 1, none⟩) (Kd.R_far (p := ⟨gb479, 0, none⟩) (Kd.R_types HO474.out BK479.out (by decide)) (fun _ hk => hk.2) (.bool t475)) (fun _ hk => hk.2) (.int .i64 t476)) (fun _ h_ => h_.1))) (Kd.R_base ho0) hb) (aC (Kd.R_lower (Kd.R_new' ho0 (Kd.R_lt (rU (Kd.R_mono (Kd.R_far (p := ⟨gb479, 1, none⟩) (Kd.R_far (p := ⟨gb479, 0, none⟩) (Kd.R_types HO474.out BK479.out (by decide)) (fun _ hk => hk.2) (.bool t475)) (fun _ hk => hk.2) (.int .i64 t476)) (fun _ h_ => h_.1))))) bz) (aC (blk_below (g := gb479) (o := .cells #[.bool t475, .int .i64 t476] 64 (0, 0)) (by (with_reducible repeat (first | refine blk_drewN ?_ _ | refine blk_drew ?_ | refine blk_alloc ?_ _)); refine blk_put (cs := #[.bool t475, .int .i64 0]) ?_ 1 _ rfl; (with_reducible repeat (first | refine blk_drewN ?_ _ | refine blk_drew ?_ | refine blk_alloc ?_ _)); refine blk_put (cs := #[.bool false, .int .i64 0]) ?_ 0 _ rfl; (with_reducible repeat (first | refine blk_drewN ?_ _ | refine blk_drew ?_ | refine blk_alloc ?_ _)); exact BK479.out) hb) (aE (bs hb)))); clear HO474 BK479 HB; obtain ⟨HO474, HO482, BK479, HB⟩ := n_; (try clear hb); (try clear ho0); obtain ⟨Ao40, co40, eo40⟩ := Kd.R_slice HO482.out; subst eo40) | ((with_reducible refine gf 115 rfl ?_); refine gL (some 29) rfl rfl Tryd.func115 rfl #[.slice Ao40 t480.length co40, .slice A0 l0.length c0, .int .i64 t477] rfl ?_; (with_reducible refine (incunableref04_Take.calls k _ _ t480 _ _ l0 t477 t483 t484 t485 t486 _ ?side1 ?side2 ?side3 ?side4 A8.out).mono ?_); (case side1 => exact cU (Kd.R_reads' HO482.out).2.2); (case side2 => exact (Kd.R_reads' HO482.out).2.1); (case side3 => exact cU (Kd.C_below HR0.out HB.out)); (case side4 => exact HC0.out); rintro e w41 ⟨rfl, hb⟩; refine ⟨_, rfl, ?_⟩; have n_ := aC (Kd.R_below (rU HO474.out) hb) (aC (Kd.R_below (rU HO482.out) hb) (aC (blk_below (bU BK479.out) hb) (aE (bs hb)))); clear HO474 HO482 BK479 HB; obtain ⟨HO474, HO482, BK479, HB⟩ := n_; (try clear hb)) | ((with_reducible refine gd 12 rfl ?_); refine bx 12 #[.bool false, .int .i64 0] 64 rfl rfl ?_; intro gb487 hg w42 hbox hb; have n_ := aC (Kd.R_below (rU HO474.out) hb) (aC (Kd.R_below (rU HO482.out) hb) (aC (blk_below (bU BK479.out) hb) (aC (bs hb) (aC hbox (aC (gz hg) (aC (gz hg) (aC (gn hg (bU BK479.out)) (aE (gm hg (bU BK479.out)))))))))); clear HO474 HO482 BK479 HB; obtain ⟨HO474, HO482, BK479, HB, BK487, GW487, GE487, NB479_487, NB487_479⟩ := n_; clear hb hbox hg; have hnb43 := NB487_479.out; have hnc43 := NB479_487.out; obtain ⟨hcz44_0, hcz44_1, hfz44_0, hfz44_1⟩ := cz2f BK487.out))
   go_ret3
   exact ⟨re, bl⟩
 ·rw [if_neg c6] at H
  have c6b0 := beq_eq_false_iff_ne.mpr c6
  have c6b1 := bne_iff_ne.mpr c6
  simp only [Option.some.injEq, Prod.mk.injEq] at H
  obtain ⟨rfl, rfl, rfl⟩ := H
  go_enter Tryd.func101, Tryd.ntmps101
  go_wp2_with (first | ((with_reducible refine gf 38 rfl ?_); refine gL (some 14) rfl rfl Tryd.func38 rfl #[.int .i64 0] rfl ?_; (with_reducible refine (incunableref04_Standard.calls 0 t472 _ A4.out).mono ?_); rintro e w45 ⟨v473, rfl, ho0, hb⟩; refine ⟨_, rfl, ?_⟩; have n_ := aC (Kd.R_lower ho0 bz) (aE (bs hb)); clear HB; obtain ⟨HO474, HB⟩ := n_; (try clear hb); (try clear ho0); obtain ⟨Ao46, co46, eo46⟩ := Kd.R_slice HO474.out; subst eo46) | ((with_reducible refine gf 115 rfl ?_); refine gL (some 17) rfl rfl Tryd.func115 rfl #[.slice Ao46 t472.length co46, .slice A0 l0.length c0, .int .i64 a1] rfl ?_; (with_reducible refine (incunableref04_Take.calls k _ _ t472 _ _ l0 a1 t475 t476 t477 t478 _ ?side1 ?side2 ?side3 ?side4 A5.out).mono ?_); (case side1 => exact cU (Kd.R_reads' HO474.out).2.2); (case side2 => exact (Kd.R_reads' HO474.out).2.1); (case side3 => exact cU (Kd.C_below HR0.out HB.out)); (case side4 => exact HC0.out); rintro e w47 ⟨rfl, hb⟩; refine ⟨_, rfl, ?_⟩; have n_ := aC (Kd.R_below (rU HO474.out) hb) (aE (bs hb)); clear HO474 HB; obtain ⟨HO474, HB⟩ := n_; (try clear hb)) | ((with_reducible refine gd 9 rfl ?_); refine bx 9 #[.bool false, .int .i64 0] 64 rfl rfl ?_; intro gb479 hg w48 hbox hb; have n_ := aC (Kd.R_below (rU HO474.out) hb) (aC (bs hb) (aC hbox (aC (gz hg) (aE (gz hg))))); clear HO474 HB; obtain ⟨HO474, HB, BK479, GW479, GE479⟩ := n_; clear hb hbox hg; obtain ⟨hcz49_0, hcz49_1, hfz49_0, hfz49_1⟩ := cz2f BK479.out))
  go_ret3
  exact ⟨re, bl⟩
mutual
def incunableref06_twoRow.l0 : Nat → List Int → Int → List Int → Int → List Int → Int → Int → Option (List Int × Int × Int)
 | 0, _, _, _, _, _, _, _ => none
 | k + 1, x0, x1, x2, x9, x10, x11, x12 => if x11 < x9 then (incunableref06_twoRow.j1 k x0 x1 x2 x9 x10 x11 x12 (decide (x9 > 0))) else (incunableref06_twoRow.j1 k x0 x1 x2 x9 x10 x11 x12 false)
def incunableref06_twoRow.j1 : Nat → List Int → Int → List Int → Int → List Int → Int → Int → Bool → Option (List Int × Int × Int)
 | 0, _, _, _, _, _, _, _, _ => none
 | k + 1, x0, x1, x2, x9, x10, x11, x12, x32 => if x32 = true then ((incunableref06_take.f k x0 x1).bind fun bt488 => (if bt488.2.2.2 = 0 then ((incunableref06_change.f k x2 x11 x12).bind fun t492 => ((incunableref06_first.f k x2 t492 x12).bind fun t493 => (if bt488.1.toList = ([112, 97, 115, 115] : List UInt8) then (if t493 ≥ x9 then (some (([] : List Int), 0, 3)) else ((incunableref06_paint.f k x10 t493 x12).bind fun t494 => (incunableref06_twoRow.l0 k x0 bt488.2.2.1 x2 x9 t494 t493 x12))) else (if bt488.1.toList = ([117, 112] : List UInt8) then (if (wrap64 (t492 + bt488.2.1)) ≤ x11 then (some (([] : List Int), 0, 3)) else (if (wrap64 (t492 + bt488.2.1)) > x9 then (some (([] : List Int), 0, 3)) else ((incunableref06_paint.f k x10 (wrap64 (t492 + bt488.2.1)) x12).bind fun t497 => (incunableref06_twoRow.l0 k x0 bt488.2.2.1 x2 x9 t497 (wrap64 (t492 + bt488.2.1)) (wrap64 (1 - x12)))))) else ((incunableref06_run.f k x0 bt488.2.2.1 x12).bind fun bt500 => (if bt500.2.2 = 0 then (if bt500.1 = 0 then (if x11 ≥ 0 then (incunableref06_twoRow.j2 k x0 x2 x9 x10 x12 bt500.2.1 (wrap64 ((mx x11 0) + bt500.1)) true) else (incunableref06_twoRow.j2 k x0 x2 x9 x10 x12 bt500.2.1 (wrap64 ((mx x11 0) + bt500.1)) (decide ((wrap64 ((mx x11 0) + bt500.1)) > x9)))) else (incunableref06_twoRow.j2 k x0 x2 x9 x10 x12 bt500.2.1 (wrap64 ((mx x11 0) + bt500.1)) (decide ((wrap64 ((mx x11 0) + bt500.1)) > x9)))) else (some (([] : List Int), 0, bt500.2.2)))))))) else (some (([] : List Int), 0, bt488.2.2.2)))) else (some (x10, x1, 0))
def incunableref06_twoRow.j2 : Nat → List Int → List Int → Int → List Int → Int → Int → Int → Bool → Option (List Int × Int × Int)
 | 0, _, _, _, _, _, _, _, _ => none
 | k + 1, x0, x2, x9, x10, x12, x20, x22, x79 => if x79 = true then (some (([] : List Int), 0, 3)) else ((incunableref06_run.f k x0 x20 (wrap64 (1 - x12))).bind fun bt503 => (if bt503.2.2 = 0 then (if ((bt503.1 == 0) != (x22 == x9)) = true then (incunableref06_twoRow.j3 k x0 x2 x9 x10 x12 bt503.2.1 x22 bt503.1 true) else (incunableref06_twoRow.j3 k x0 x2 x9 x10 x12 bt503.2.1 x22 bt503.1 (decide ((wrap64 (x22 + bt503.1)) > x9)))) else (some (([] : List Int), 0, bt503.2.2))))
def incunableref06_twoRow.j3 : Nat → List Int → List Int → Int → List Int → Int → Int → Int → Int → Bool → Option (List Int × Int × Int)
 | 0, _, _, _, _, _, _, _, _, _ => none
 | k + 1, x0, x2, x9, x10, x12, x20, x22, x23, x104 => if x104 = true then (some (([] : List Int), 0, 3)) else ((incunableref06_paint.f k x10 x22 x12).bind fun t506 => ((incunableref06_paint.f k t506 (wrap64 (x22 + x23)) (wrap64 (1 - x12))).bind fun t509 => (incunableref06_twoRow.l0 k x0 x20 x2 x9 t509 (wrap64 (x22 + x23)) x12)))
end
def incunableref06_twoRow.f (k : Nat) (l0 : List Int) (a1 : Int) (l2 : List Int) : Option (List Int × Int × Int) := incunableref06_twoRow.l0 k l0 a1 l2 (l2.length : Int) ([] : List Int) (-1) 0
theorem incunableref06_twoRow.mono_l : ∀ k, (∀ y0 y1 y2 y3 y4 y5 y6, LeO (incunableref06_twoRow.l0 k y0 y1 y2 y3 y4 y5 y6) (incunableref06_twoRow.l0 (k + 1) y0 y1 y2 y3 y4 y5 y6)) ∧ (∀ y0 y1 y2 y3 y4 y5 y6 y7, LeO (incunableref06_twoRow.j1 k y0 y1 y2 y3 y4 y5 y6 y7) (incunableref06_twoRow.j1 (k + 1) y0 y1 y2 y3 y4 y5 y6 y7)) ∧ (∀ y0 y1 y2 y3 y4 y5 y6 y7, LeO (incunableref06_twoRow.j2 k y0 y1 y2 y3 y4 y5 y6 y7) (incunableref06_twoRow.j2 (k + 1) y0 y1 y2 y3 y4 y5 y6 y7)) ∧ (∀ y0 y1 y2 y3 y4 y5 y6 y7 y8, LeO (incunableref06_twoRow.j3 k y0 y1 y2 y3 y4 y5 y6 y7 y8) (incunableref06_twoRow.j3 (k + 1) y0 y1 y2 y3 y4 y5 y6 y7 y8))
 | 0 => ⟨fun _ _ _ _ _ _ _ r h => by simp [incunableref06_twoRow.l0] at h, fun _ _ _ _ _ _ _ _ r h => by simp [incunableref06_twoRow.j1] at h, fun _ _ _ _ _ _ _ _ r h => by simp [incunableref06_twoRow.j2] at h, fun _ _ _ _ _ _ _ _ _ r h => by simp [incunableref06_twoRow.j3] at h⟩
 | k + 1 => by
  obtain ⟨ih0, ih1, ih2, ih3⟩ := incunableref06_twoRow.mono_l k
  refine ⟨?_, ?_, ?_, ?_⟩
  ·intro y0 y1 y2 y3 y4 y5 y6
   unfold incunableref06_twoRow.l0
   repeat' first
   | (with_reducible exact ih0 _ _ _ _ _ _ _)
   | (with_reducible exact ih1 _ _ _ _ _ _ _ _)
   | (with_reducible exact ih2 _ _ _ _ _ _ _ _)
   | (with_reducible exact ih3 _ _ _ _ _ _ _ _ _)
   | (with_reducible exact incunableref06_change.mono _ _ _ _)
   | (with_reducible exact incunableref06_first.mono _ _ _ _)
   | (with_reducible exact incunableref06_paint.mono _ _ _ _)
   | (with_reducible exact incunableref06_run.mono _ _ _ _)
   | (with_reducible exact incunableref06_take.mono _ _ _)
   | (with_reducible first | exact LeO.refl _ | exact LeO.none _ | refine LeO.ite ?_ ?_ | refine LeO.bind ?_ (fun _ => ?_))
   | exact ih0 _ _ _ _ _ _ _
   | exact ih1 _ _ _ _ _ _ _ _
   | exact ih2 _ _ _ _ _ _ _ _
   | exact ih3 _ _ _ _ _ _ _ _ _
   | exact incunableref06_change.mono _ _ _ _
   | exact incunableref06_first.mono _ _ _ _
   | exact incunableref06_paint.mono _ _ _ _
   | exact incunableref06_run.mono _ _ _ _
   | exact incunableref06_take.mono _ _ _
   | exact LeO.none _ | refine LeO.ite ?_ ?_ | refine LeO.bind ?_ (fun _ => ?_)
  ·intro y0 y1 y2 y3 y4 y5 y6 y7
   unfold incunableref06_twoRow.j1
   repeat' first
   | (with_reducible exact ih0 _ _ _ _ _ _ _)
   | (with_reducible exact ih1 _ _ _ _ _ _ _ _)
   | (with_reducible exact ih2 _ _ _ _ _ _ _ _)
   | (with_reducible exact ih3 _ _ _ _ _ _ _ _ _)
   | (with_reducible exact incunableref06_change.mono _ _ _ _)
   | (with_reducible exact incunableref06_first.mono _ _ _ _)
   | (with_reducible exact incunableref06_paint.mono _ _ _ _)
   | (with_reducible exact incunableref06_run.mono _ _ _ _)
   | (with_reducible exact incunableref06_take.mono _ _ _)
   | (with_reducible first | exact LeO.refl _ | exact LeO.none _ | refine LeO.ite ?_ ?_ | refine LeO.bind ?_ (fun _ => ?_))
   | exact ih0 _ _ _ _ _ _ _
   | exact ih1 _ _ _ _ _ _ _ _
   | exact ih2 _ _ _ _ _ _ _ _
   | exact ih3 _ _ _ _ _ _ _ _ _
   | exact incunableref06_change.mono _ _ _ _
   | exact incunableref06_first.mono _ _ _ _
   | exact incunableref06_paint.mono _ _ _ _
   | exact incunableref06_run.mono _ _ _ _
   | exact incunableref06_take.mono _ _ _
   | exact LeO.none _ | refine LeO.ite ?_ ?_ | refine LeO.bind ?_ (fun _ => ?_)
  ·intro y0 y1 y2 y3 y4 y5 y6 y7
   unfold incunableref06_twoRow.j2
   repeat' first
   | (with_reducible exact ih0 _ _ _ _ _ _ _)
   | (with_reducible exact ih1 _ _ _ _ _ _ _ _)
   | (with_reducible exact ih2 _ _ _ _ _ _ _ _)
   | (with_reducible exact ih3 _ _ _ _ _ _ _ _ _)
   | (with_reducible exact incunableref06_change.mono _ _ _ _)
   | (with_reducible exact incunableref06_first.mono _ _ _ _)
   | (with_reducible exact incunableref06_paint.mono _ _ _ _)
   | (with_reducible exact incunableref06_run.mono _ _ _ _)
   | (with_reducible exact incunableref06_take.mono _ _ _)
   | (with_reducible first | exact LeO.refl _ | exact LeO.none _ | refine LeO.ite ?_ ?_ | refine LeO.bind ?_ (fun _ => ?_))
   | exact ih0 _ _ _ _ _ _ _
   | exact ih1 _ _ _ _ _ _ _ _
   | exact ih2 _ _ _ _ _ _ _ _
   | exact ih3 _ _ _ _ _ _ _ _ _
   | exact incunableref06_change.mono _ _ _ _
   | exact incunableref06_first.mono _ _ _ _
   | exact incunableref06_paint.mono _ _ _ _
   | exact incunableref06_run.mono _ _ _ _
   | exact incunableref06_take.mono _ _ _
   | exact LeO.none _ | refine LeO.ite ?_ ?_ | refine LeO.bind ?_ (fun _ => ?_)
  ·intro y0 y1 y2 y3 y4 y5 y6 y7 y8
   unfold incunableref06_twoRow.j3
   repeat' first
   | (with_reducible exact ih0 _ _ _ _ _ _ _)
   | (with_reducible exact ih1 _ _ _ _ _ _ _ _)
   | (with_reducible exact ih2 _ _ _ _ _ _ _ _)
   | (with_reducible exact ih3 _ _ _ _ _ _ _ _ _)
   | (with_reducible exact incunableref06_change.mono _ _ _ _)
   | (with_reducible exact incunableref06_first.mono _ _ _ _)
   | (with_reducible exact incunableref06_paint.mono _ _ _ _)
   | (with_reducible exact incunableref06_run.mono _ _ _ _)
   | (with_reducible exact incunableref06_take.mono _ _ _)
   | (with_reducible first | exact LeO.refl _ | exact LeO.none _ | refine LeO.ite ?_ ?_ | refine LeO.bind ?_ (fun _ => ?_))
   | exact ih0 _ _ _ _ _ _ _
   | exact ih1 _ _ _ _ _ _ _ _
   | exact ih2 _ _ _ _ _ _ _ _
   | exact ih3 _ _ _ _ _ _ _ _ _
   | exact incunableref06_change.mono _ _ _ _
   | exact incunableref06_first.mono _ _ _ _
   | exact incunableref06_paint.mono _ _ _ _
   | exact incunableref06_run.mono _ _ _ _
   | exact incunableref06_take.mono _ _ _
   | exact LeO.none _ | refine LeO.ite ?_ ?_ | refine LeO.bind ?_ (fun _ => ?_)
theorem incunableref06_twoRow.mono : ∀ a0 a1 a2 k, LeO (incunableref06_twoRow.f k a0 a1 a2) (incunableref06_twoRow.f (k + 1) a0 a1 a2) := by
 intro a0 a1 a2 k
 obtain ⟨ih0, ih1, ih2, ih3⟩ := incunableref06_twoRow.mono_l k
 unfold incunableref06_twoRow.f
 repeat' first
   | (with_reducible exact ih0 _ _ _ _ _ _ _)
   | (with_reducible exact ih1 _ _ _ _ _ _ _ _)
   | (with_reducible exact ih2 _ _ _ _ _ _ _ _)
   | (with_reducible exact ih3 _ _ _ _ _ _ _ _ _)
   | (with_reducible exact incunableref06_change.mono _ _ _ _)
   | (with_reducible exact incunableref06_first.mono _ _ _ _)
   | (with_reducible exact incunableref06_paint.mono _ _ _ _)
   | (with_reducible exact incunableref06_run.mono _ _ _ _)
   | (with_reducible exact incunableref06_take.mono _ _ _)
   | (with_reducible first | exact LeO.refl _ | exact LeO.none _ | refine LeO.ite ?_ ?_ | refine LeO.bind ?_ (fun _ => ?_))
   | exact ih0 _ _ _ _ _ _ _
   | exact ih1 _ _ _ _ _ _ _ _
   | exact ih2 _ _ _ _ _ _ _ _
   | exact ih3 _ _ _ _ _ _ _ _ _
   | exact incunableref06_change.mono _ _ _ _
   | exact incunableref06_first.mono _ _ _ _
   | exact incunableref06_paint.mono _ _ _ _
   | exact incunableref06_run.mono _ _ _ _
   | exact incunableref06_take.mono _ _ _
   | exact LeO.none _ | refine LeO.ite ?_ ?_ | refine LeO.bind ?_ (fun _ => ?_)
set_option maxHeartbeats 8000000 in
set_option maxRecDepth 100000 in
theorem incunableref06_twoRow.calls (k : Nat) (A0 : Option Addr) (c0 : Nat) (l0 : List Int) (a1 : Int) (A2 : Option Addr) (c2 : Nat) (l2 : List Int) (r1 : List Int) (r2 : Int) (r3 : Int) (w : World) (hr0 : Kd.C (Kd.int .u8) w A0 l0.length l0) (hc0 : l0.length ≤ c0) (hr2 : Kd.C (Kd.int .u8) w A2 l2.length l2) (hc2 : l2.length ≤ c2) (h : incunableref06_twoRow.f k l0 a1 l2 = some (r1, r2, r3)) :
  Calls Tryd.prog 82 #[.slice A0 l0.length c0, .int .i64 a1, .slice A2 l2.length c2] w fun e w' => ∃ v0_ : Value, e = .returned (.tuple #[v0_, .int .i64 r2, .int .i64 r3]) ∧ Kd.R (Kd.int .u8) 5 w' w.heap.size (fun _ => True) v0_ r1 ∧ Below w.heap.size w w' := by
 have HR0 := Aside0.mk hr0
 have HC0 := Aside0.mk hc0
 clear hr0 hc0
 have HR2 := Aside0.mk hr2
 have HC2 := Aside0.mk hc2
 clear hr2 hc2
 have HB := Aside0.mk (Below.refl w.heap.size w)
 have H : (incunableref06_twoRow.l0 k l0 a1 l2 (l2.length : Int) ([] : List Int) (-1) 0) = some (r1, r2, r3) := h
 clear h
 have H' := Aside0.mk H
 clear H
 go_enter Tryd.func82, Tryd.ntmps82
 go_wp2
 go_loopg [1, 10, 11, 12] k (fun kq v1 v10 v11 v12 w' => ∃ (x1_1 : Int) (x10_1 : List Int) (x11_1 : Int) (x12_1 : Int), v1 = .int .i64 x1_1 ∧ v11 = .int .i64 x11_1 ∧ v12 = .int .i64 x12_1 ∧ Aside0 (incunableref06_twoRow.l0 kq l0 x1_1 l2 (l2.length : Int) x10_1 x11_1 x12_1 = some (r1, r2, r3)) ∧ Aside0 (kq ≤ k) ∧ Aside0 (Kd.R (Kd.int .u8) 5 w' w.heap.size (fun _ => True) v10 x10_1) ∧ Aside0 (Below w.heap.size w w'))
 case atStart => exact ⟨(a1), (([] : List Int)), ((-1)), (0), rq, rq, rq, H', ⟨Nat.le_refl _⟩, ⟨by first | exact Kd.R_nil _ _ _ _ _ | exact Kd.N_nil _ _ _ _ _ | exact Kd.V_nil _ _ _ _ _ | exact Kd.Q_nil _ _ _ _ _ | exact Kd.S_nil _ _ _ _ _⟩, ⟨bl⟩⟩
 case round =>
  clear H'
  try clear c2
  obtain ⟨x1_1, x10_1, x11_1, x12_1, rfl, rfl, rfl, HA, HK1, HO_10, HB⟩ := hrel
  cases gk with
  | zero => exact absurd HA.out (by simp [incunableref06_twoRow.l0])
  | succ k1 =>
   have H := HA.out
   clear HA
   simp only [incunableref06_twoRow.l0] at H
   have HC4 := Aside0.mk H
   clear H
   go_upto_region 4 with (fail)
   go_cut [32] (fun v32 wc => ∃ (kq : Nat) (x32_3 : Bool), v32 = .bool x32_3 ∧ Aside0 (incunableref06_twoRow.j1 kq l0 x1_1 l2 (l2.length : Int) x10_1 x11_1 x12_1 x32_3 = some (r1, r2, r3)) ∧ Aside0 (kq ≤ k1) ∧ Aside0 (Kd.R (Kd.int .u8) 5 wc w.heap.size (fun _ => True) u10 x10_1) ∧ Aside0 (Below w.heap.size w wc))
   case first =>
    have H := HC4.out
    clear HC4
    by_cases c5 : x11_1 < (l2.length : Int)
    ·rw [if_pos c5] at H
     have c5b0 := decide_eq_true c5
     clear c5
     (first | rw [c5b0] | (simp only [i64_w, i32_w]; rw [c5b0]) | skip)
     have H' := Aside0.mk H
     clear H
     go_wp2
     go_meet
     case rel => exact ⟨_, (decide ((l2.length : Int) > 0)), rq, H', ⟨by have := HK1.out; first | omega | exact Nat.le_refl _⟩, ⟨rU HO_10.out⟩, ⟨bl⟩⟩
    ·rw [if_neg c5] at H
     have c5b0 := decide_eq_false c5
     clear c5
     (first | rw [c5b0] | (simp only [i64_w, i32_w]; rw [c5b0]) | skip)
     have H' := Aside0.mk H
     clear H
     go_wp2
     go_meet
     case rel => exact ⟨_, (false), rq, H', ⟨by have := HK1.out; first | omega | exact Nat.le_refl _⟩, ⟨rU HO_10.out⟩, ⟨bl⟩⟩
   case rest =>
    clear HC4
    try clear c2
    obtain ⟨kq, x32_3, rfl, HA, HJ3, HO_10, HB⟩ := hcut
    cases kq with
    | zero => exact absurd HA.out (by simp [incunableref06_twoRow.j1])
    | succ kj3 =>
     have H := HA.out
     clear HA
     simp only [incunableref06_twoRow.j1] at H
     by_cases c6 : x32_3 = true
     ·subst c6
      have H1 : ((incunableref06_take.f kj3 l0 x1_1).bind fun bt488 => (if bt488.2.2.2 = 0 then ((incunableref06_change.f kj3 l2 x11_1 x12_1).bind fun t492 => ((incunableref06_first.f kj3 l2 t492 x12_1).bind fun t493 => (if bt488.1.toList = ([112, 97, 115, 115] : List UInt8) then (if t493 ≥ (l2.length : Int) then (some (([] : List Int), 0, 3)) else ((incunableref06_paint.f kj3 x10_1 t493 x12_1).bind fun t494 => (incunableref06_twoRow.l0 kj3 l0 bt488.2.2.1 l2 (l2.length : Int) t494 t493 x12_1))) else (if bt488.1.toList = ([117, 112] : List UInt8) then (if (wrap64 (t492 + bt488.2.1)) ≤ x11_1 then (some (([] : List Int), 0, 3)) else (if (wrap64 (t492 + bt488.2.1)) > (l2.length : Int) then (some (([] : List Int), 0, 3)) else ((incunableref06_paint.f kj3 x10_1 (wrap64 (t492 + bt488.2.1)) x12_1).bind fun t497 => (incunableref06_twoRow.l0 kj3 l0 bt488.2.2.1 l2 (l2.length : Int) t497 (wrap64 (t492 + bt488.2.1)) (wrap64 (1 - x12_1)))))) else ((incunableref06_run.f kj3 l0 bt488.2.2.1 x12_1).bind fun bt500 => (if bt500.2.2 = 0 then (if bt500.1 = 0 then (if x11_1 ≥ 0 then (incunableref06_twoRow.j2 kj3 l0 l2 (l2.length : Int) x10_1 x12_1 bt500.2.1 (wrap64 ((mx x11_1 0) + bt500.1)) true) else (incunableref06_twoRow.j2 kj3 l0 l2 (l2.length : Int) x10_1 x12_1 bt500.2.1 (wrap64 ((mx x11_1 0) + bt500.1)) (decide ((wrap64 ((mx x11_1 0) + bt500.1)) > (l2.length : Int))))) else (incunableref06_twoRow.j2 kj3 l0 l2 (l2.length : Int) x10_1 x12_1 bt500.2.1 (wrap64 ((mx x11_1 0) + bt500.1)) (decide ((wrap64 ((mx x11_1 0) + bt500.1)) > (l2.length : Int))))) else (some (([] : List Int), 0, bt500.2.2)))))))) else (some (([] : List Int), 0, bt488.2.2.2)))) = some (r1, r2, r3) := by rw [if_pos rfl] at H; exact H
      clear H
      have H := H1
      clear H1
      replace H := Option.bind_eq_some_iff.mp H
      obtain ⟨⟨t488, t489, t490, t491⟩, A70, H⟩ := H
      replace H : (if t491 = 0 then ((incunableref06_change.f kj3 l2 x11_1 x12_1).bind fun t492 => ((incunableref06_first.f kj3 l2 t492 x12_1).bind fun t493 => (if t488.toList = ([112, 97, 115, 115] : List UInt8) then (if t493 ≥ (l2.length : Int) then (some (([] : List Int), 0, 3)) else ((incunableref06_paint.f kj3 x10_1 t493 x12_1).bind fun t494 => (incunableref06_twoRow.l0 kj3 l0 t490 l2 (l2.length : Int) t494 t493 x12_1))) else (if t488.toList = ([117, 112] : List UInt8) then (if (wrap64 (t492 + t489)) ≤ x11_1 then (some (([] : List Int), 0, 3)) else (if (wrap64 (t492 + t489)) > (l2.length : Int) then (some (([] : List Int), 0, 3)) else ((incunableref06_paint.f kj3 x10_1 (wrap64 (t492 + t489)) x12_1).bind fun t497 => (incunableref06_twoRow.l0 kj3 l0 t490 l2 (l2.length : Int) t497 (wrap64 (t492 + t489)) (wrap64 (1 - x12_1)))))) else ((incunableref06_run.f kj3 l0 t490 x12_1).bind fun bt500 => (if bt500.2.2 = 0 then (if bt500.1 = 0 then (if x11_1 ≥ 0 then (incunableref06_twoRow.j2 kj3 l0 l2 (l2.length : Int) x10_1 x12_1 bt500.2.1 (wrap64 ((mx x11_1 0) + bt500.1)) true) else (incunableref06_twoRow.j2 kj3 l0 l2 (l2.length : Int) x10_1 x12_1 bt500.2.1 (wrap64 ((mx x11_1 0) + bt500.1)) (decide ((wrap64 ((mx x11_1 0) + bt500.1)) > (l2.length : Int))))) else (incunableref06_twoRow.j2 kj3 l0 l2 (l2.length : Int) x10_1 x12_1 bt500.2.1 (wrap64 ((mx x11_1 0) + bt500.1)) (decide ((wrap64 ((mx x11_1 0) + bt500.1)) > (l2.length : Int))))) else (some (([] : List Int), 0, bt500.2.2)))))))) else (some (([] : List Int), 0, t491))) = some (r1, r2, r3) := H
      have A7 := Aside0.mk A70
      clear A70
      by_cases c8 : t491 = 0
      ·rw [if_pos c8] at H
       have c8b0 := beq_iff_eq.mpr c8
       have c8b1 := bne_eq_false_iff_eq.mpr c8
       clear c8
       replace H := Option.bind_eq_some_iff.mp H
       obtain ⟨t492, A90, H⟩ := H
       replace H : ((incunableref06_first.f kj3 l2 t492 x12_1).bind fun t493 => (if t488.toList = ([112, 97, 115, 115] : List UInt8) then (if t493 ≥ (l2.length : Int) then (some (([] : List Int), 0, 3)) else ((incunableref06_paint.f kj3 x10_1 t493 x12_1).bind fun t494 => (incunableref06_twoRow.l0 kj3 l0 t490 l2 (l2.length : Int) t494 t493 x12_1))) else (if t488.toList = ([117, 112] : List UInt8) then (if (wrap64 (t492 + t489)) ≤ x11_1 then (some (([] : List Int), 0, 3)) else (if (wrap64 (t492 + t489)) > (l2.length : Int) then (some (([] : List Int), 0, 3)) else ((incunableref06_paint.f kj3 x10_1 (wrap64 (t492 + t489)) x12_1).bind fun t497 => (incunableref06_twoRow.l0 kj3 l0 t490 l2 (l2.length : Int) t497 (wrap64 (t492 + t489)) (wrap64 (1 - x12_1)))))) else ((incunableref06_run.f kj3 l0 t490 x12_1).bind fun bt500 => (if bt500.2.2 = 0 then (if bt500.1 = 0 then (if x11_1 ≥ 0 then (incunableref06_twoRow.j2 kj3 l0 l2 (l2.length : Int) x10_1 x12_1 bt500.2.1 (wrap64 ((mx x11_1 0) + bt500.1)) true) else (incunableref06_twoRow.j2 kj3 l0 l2 (l2.length : Int) x10_1 x12_1 bt500.2.1 (wrap64 ((mx x11_1 0) + bt500.1)) (decide ((wrap64 ((mx x11_1 0) + bt500.1)) > (l2.length : Int))))) else (incunableref06_twoRow.j2 kj3 l0 l2 (l2.length : Int) x10_1 x12_1 bt500.2.1 (wrap64 ((mx x11_1 0) + bt500.1)) (decide ((wrap64 ((mx x11_1 0) + bt500.1)) > (l2.length : Int))))) else (some (([] : List Int), 0, bt500.2.2))))))) = some (r1, r2, r3) := H
       have A9 := Aside0.mk A90
       clear A90
       replace H := Option.bind_eq_some_iff.mp H
       obtain ⟨t493, A100, H⟩ := H
       replace H : (if t488.toList = ([112, 97, 115, 115] : List UInt8) then (if t493 ≥ (l2.length : Int) then (some (([] : List Int), 0, 3)) else ((incunableref06_paint.f kj3 x10_1 t493 x12_1).bind fun t494 => (incunableref06_twoRow.l0 kj3 l0 t490 l2 (l2.length : Int) t494 t493 x12_1))) else (if t488.toList = ([117, 112] : List UInt8) then (if (wrap64 (t492 + t489)) ≤ x11_1 then (some (([] : List Int), 0, 3)) else (if (wrap64 (t492 + t489)) > (l2.length : Int) then (some (([] : List Int), 0, 3)) else ((incunableref06_paint.f kj3 x10_1 (wrap64 (t492 + t489)) x12_1).bind fun t497 => (incunableref06_twoRow.l0 kj3 l0 t490 l2 (l2.length : Int) t497 (wrap64 (t492 + t489)) (wrap64 (1 - x12_1)))))) else ((incunableref06_run.f kj3 l0 t490 x12_1).bind fun bt500 => (if bt500.2.2 = 0 then (if bt500.1 = 0 then (if x11_1 ≥ 0 then (incunableref06_twoRow.j2 kj3 l0 l2 (l2.length : Int) x10_1 x12_1 bt500.2.1 (wrap64 ((mx x11_1 0) + bt500.1)) true) else (incunableref06_twoRow.j2 kj3 l0 l2 (l2.length : Int) x10_1 x12_1 bt500.2.1 (wrap64 ((mx x11_1 0) + bt500.1)) (decide ((wrap64 ((mx x11_1 0) + bt500.1)) > (l2.length : Int))))) else (incunableref06_twoRow.j2 kj3 l0 l2 (l2.length : Int) x10_1 x12_1 bt500.2.1 (wrap64 ((mx x11_1 0) + bt500.1)) (decide ((wrap64 ((mx x11_1 0) + bt500.1)) > (l2.length : Int))))) else (some (([] : List Int), 0, bt500.2.2)))))) = some (r1, r2, r3) := H
       have A10 := Aside0.mk A100
       clear A100
       by_cases c11 : t488.toList = ([112, 97, 115, 115] : List UInt8)
       ·rw [if_pos c11] at H
        have c11b0 := beq_iff_eq.mpr c11
        have c11b1 := bne_eq_false_iff_eq.mpr c11
        clear c11
        by_cases c12 : t493 ≥ (l2.length : Int)
        ·rw [if_pos c12] at H
         have c12b0 := decide_eq_true c12
         clear c12
         simp only [Option.some.injEq, Prod.mk.injEq] at H
         obtain ⟨rfl, rfl, rfl⟩ := H
         go_wp2_with (first | ((with_reducible refine gf 99 rfl ?_); refine gL (some 36) rfl rfl Tryd.func99 rfl #[.slice A0 l0.length c0, .int .i64 x1_1] rfl ?_; (with_reducible refine (incunableref06_take.calls kj3 _ _ l0 x1_1 t488 t489 t490 t491 _ ?side1 ?side2 A7.out).mono ?_); (case side1 => exact cU (Kd.C_below HR0.out HB.out)); (case side2 => exact HC0.out); rintro e w13 ⟨rfl, hb⟩; refine ⟨_, rfl, ?_⟩; have n_ := aC (Kd.R_below (rU HO_10.out) hb) (aE (bs hb)); clear HO_10 HB; obtain ⟨HO_10, HB⟩ := n_; (try clear hb)) | ((with_reducible refine gf 69 rfl ?_); refine gL (some 48) rfl rfl Tryd.func69 rfl #[.slice A2 l2.length c2, .int .i64 x11_1, .int .i64 x12_1] rfl ?_; (with_reducible refine (incunableref06_change.calls kj3 _ _ l2 x11_1 x12_1 t492 _ ?side1 ?side2 A9.out).mono ?_); (case side1 => exact cU (Kd.C_below HR2.out HB.out)); (case side2 => exact HC2.out); rintro e w' ⟨rfl, ⟨nd, rfl⟩⟩; refine ⟨_, rfl, ?_⟩) | ((with_reducible refine gf 70 rfl ?_); refine gL (some 52) rfl rfl Tryd.func70 rfl #[.slice A2 l2.length c2, .int .i64 t492, .int .i64 x12_1] rfl ?_; (with_reducible refine (incunableref06_first.calls kj3 _ _ l2 t492 x12_1 t493 _ ?side1 ?side2 A10.out).mono ?_); (case side1 => exact cU (Kd.C_below HR2.out bl)); (case side2 => exact HC2.out); rintro e w' ⟨rfl, ⟨nd, rfl⟩⟩; refine ⟨_, rfl, ?_⟩))
         go_ret3
         exact ⟨_, re, by first | exact Kd.R_nil _ _ _ _ _ | exact Kd.N_nil _ _ _ _ _ | exact Kd.V_nil _ _ _ _ _ | exact Kd.Q_nil _ _ _ _ _ | exact Kd.S_nil _ _ _ _ _, bl⟩
        ·rw [if_neg c12] at H
         have c12b0 := decide_eq_false c12
         clear c12
         replace H := Option.bind_eq_some_iff.mp H
         obtain ⟨t494, A140, H⟩ := H
         replace H : (incunableref06_twoRow.l0 kj3 l0 t490 l2 (l2.length : Int) t494 t493 x12_1) = some (r1, r2, r3) := H
         have A14 := Aside0.mk A140
         clear A140
         have H' := Aside0.mk H
         clear H
         go_wp2_with (first | ((with_reducible refine gf 99 rfl ?_); refine gL (some 36) rfl rfl Tryd.func99 rfl #[.slice A0 l0.length c0, .int .i64 x1_1] rfl ?_; (with_reducible refine (incunableref06_take.calls kj3 _ _ l0 x1_1 t488 t489 t490 t491 _ ?side1 ?side2 A7.out).mono ?_); (case side1 => exact cU (Kd.C_below HR0.out HB.out)); (case side2 => exact HC0.out); rintro e w15 ⟨rfl, hb⟩; refine ⟨_, rfl, ?_⟩; have n_ := aC (Kd.R_below (rU HO_10.out) hb) (aE (bs hb)); clear HO_10 HB; obtain ⟨HO_10, HB⟩ := n_; (try clear hb)) | ((with_reducible refine gf 69 rfl ?_); refine gL (some 48) rfl rfl Tryd.func69 rfl #[.slice A2 l2.length c2, .int .i64 x11_1, .int .i64 x12_1] rfl ?_; (with_reducible refine (incunableref06_change.calls kj3 _ _ l2 x11_1 x12_1 t492 _ ?side1 ?side2 A9.out).mono ?_); (case side1 => exact cU (Kd.C_below HR2.out HB.out)); (case side2 => exact HC2.out); rintro e w' ⟨rfl, ⟨nd, rfl⟩⟩; refine ⟨_, rfl, ?_⟩) | ((with_reducible refine gf 70 rfl ?_); refine gL (some 52) rfl rfl Tryd.func70 rfl #[.slice A2 l2.length c2, .int .i64 t492, .int .i64 x12_1] rfl ?_; (with_reducible refine (incunableref06_first.calls kj3 _ _ l2 t492 x12_1 t493 _ ?side1 ?side2 A10.out).mono ?_); (case side1 => exact cU (Kd.C_below HR2.out bl)); (case side2 => exact HC2.out); rintro e w' ⟨rfl, ⟨nd, rfl⟩⟩; refine ⟨_, rfl, ?_⟩; obtain ⟨Ao16, co16, eo16⟩ := Kd.R_slice HO_10.out; subst eo16) | ((with_reducible refine gf 100 rfl ?_); refine gL (some 128) rfl rfl Tryd.func100 rfl #[.slice Ao16 x10_1.length co16, .int .i64 t493, .int .i64 x12_1] rfl ?_; (with_reducible refine (incunableref06_paint.calls kj3 _ _ x10_1 t493 x12_1 t494 _ ?side1 ?side2 A14.out).mono ?_); (case side1 => exact cU (Kd.R_reads' HO_10.out).2.2); (case side2 => exact (Kd.R_reads' HO_10.out).2.1); rintro e w17 ⟨v495, rfl, ho0, hb⟩; refine ⟨_, rfl, ?_⟩; have n_ := aC (Kd.R_elder' (rU HO_10.out) (Kd.R_base ho0) hb) (aC (Kd.R_lower (Kd.R_new' ho0 (Kd.R_lt (rU HO_10.out))) bz) (aE (bs hb))); clear HO_10 HB; obtain ⟨HO_10, HO496, HB⟩ := n_; (try clear hb); (try clear ho0)))
         go_roundg kj3
         case measure => have := HK1.out; have := HJ3.out; omega
         case rel => exact ⟨(t490), (t494), (t493), (x12_1), rq, rq, rq, H', ⟨by have := HK1.out; have := HJ3.out; omega⟩, ⟨rU (Kd.R_mono HO496.out (fun _ hk => trivial))⟩, ⟨bl⟩⟩
       ·rw [if_neg c11] at H
        have c11b0 := beq_eq_false_iff_ne.mpr c11
        have c11b1 := bne_iff_ne.mpr c11
        by_cases c18 : t488.toList = ([117, 112] : List UInt8)
        ·rw [if_pos c18] at H
         have c18b0 := beq_iff_eq.mpr c18
         have c18b1 := bne_eq_false_iff_eq.mpr c18
         clear c18
         by_cases c19 : (wrap64 (t492 + t489)) ≤ x11_1
         ·rw [if_pos c19] at H
          have c19b0 := decide_eq_true c19
          clear c19
          simp only [Option.some.injEq, Prod.mk.injEq] at H
          obtain ⟨rfl, rfl, rfl⟩ := H
          go_wp2_with (first | ((with_reducible refine gf 99 rfl ?_); refine gL (some 36) rfl rfl Tryd.func99 rfl #[.slice A0 l0.length c0, .int .i64 x1_1] rfl ?_; (with_reducible refine (incunableref06_take.calls kj3 _ _ l0 x1_1 t488 t489 t490 t491 _ ?side1 ?side2 A7.out).mono ?_); (case side1 => exact cU (Kd.C_below HR0.out HB.out)); (case side2 => exact HC0.out); rintro e w20 ⟨rfl, hb⟩; refine ⟨_, rfl, ?_⟩; have n_ := aC (Kd.R_below (rU HO_10.out) hb) (aE (bs hb)); clear HO_10 HB; obtain ⟨HO_10, HB⟩ := n_; (try clear hb)) | ((with_reducible refine gf 69 rfl ?_); refine gL (some 48) rfl rfl Tryd.func69 rfl #[.slice A2 l2.length c2, .int .i64 x11_1, .int .i64 x12_1] rfl ?_; (with_reducible refine (incunableref06_change.calls kj3 _ _ l2 x11_1 x12_1 t492 _ ?side1 ?side2 A9.out).mono ?_); (case side1 => exact cU (Kd.C_below HR2.out HB.out)); (case side2 => exact HC2.out); rintro e w' ⟨rfl, ⟨nd, rfl⟩⟩; refine ⟨_, rfl, ?_⟩) | ((with_reducible refine gf 70 rfl ?_); refine gL (some 52) rfl rfl Tryd.func70 rfl #[.slice A2 l2.length c2, .int .i64 t492, .int .i64 x12_1] rfl ?_; (with_reducible refine (incunableref06_first.calls kj3 _ _ l2 t492 x12_1 t493 _ ?side1 ?side2 A10.out).mono ?_); (case side1 => exact cU (Kd.C_below HR2.out bl)); (case side2 => exact HC2.out); rintro e w' ⟨rfl, ⟨nd, rfl⟩⟩; refine ⟨_, rfl, ?_⟩))
          go_ret3
          exact ⟨_, re, by first | exact Kd.R_nil _ _ _ _ _ | exact Kd.N_nil _ _ _ _ _ | exact Kd.V_nil _ _ _ _ _ | exact Kd.Q_nil _ _ _ _ _ | exact Kd.S_nil _ _ _ _ _, bl⟩
         ·rw [if_neg c19] at H
          have c19b0 := decide_eq_false c19
          clear c19
          by_cases c21 : (wrap64 (t492 + t489)) > (l2.length : Int)
          ·rw [if_pos c21] at H
           have c21b0 := decide_eq_true c21
           clear c21
           simp only [Option.some.injEq, Prod.mk.injEq] at H
           obtain ⟨rfl, rfl, rfl⟩ := H
           go_wp2_with (first | ((with_reducible refine gf 99 rfl ?_); refine gL (some 36) rfl rfl Tryd.func99 rfl #[.slice A0 l0.length c0, .int .i64 x1_1] rfl ?_; (with_reducible refine (incunableref06_take.calls kj3 _ _ l0 x1_1 t488 t489 t490 t491 _ ?side1 ?side2 A7.out).mono ?_); (case side1 => exact cU (Kd.C_below HR0.out HB.out)); (case side2 => exact HC0.out); rintro e w22 ⟨rfl, hb⟩; refine ⟨_, rfl, ?_⟩; have n_ := aC (Kd.R_below (rU HO_10.out) hb) (aE (bs hb)); clear HO_10 HB; obtain ⟨HO_10, HB⟩ := n_; (try clear hb)) | ((with_reducible refine gf 69 rfl ?_); refine gL (some 48) rfl rfl Tryd.func69 rfl #[.slice A2 l2.length c2, .int .i64 x11_1, .int .i64 x12_1] rfl ?_; (with_reducible refine (incunableref06_change.calls kj3 _ _ l2 x11_1 x12_1 t492 _ ?side1 ?side2 A9.out).mono ?_); (case side1 => exact cU (Kd.C_below HR2.out HB.out)); (case side2 => exact HC2.out); rintro e w' ⟨rfl, ⟨nd, rfl⟩⟩; refine ⟨_, rfl, ?_⟩) | ((with_reducible refine gf 70 rfl ?_); refine gL (some 52) rfl rfl Tryd.func70 rfl #[.slice A2 l2.length c2, .int .i64 t492, .int .i64 x12_1] rfl ?_; (with_reducible refine (incunableref06_first.calls kj3 _ _ l2 t492 x12_1 t493 _ ?side1 ?side2 A10.out).mono ?_); (case side1 => exact cU (Kd.C_below HR2.out bl)); (case side2 => exact HC2.out); rintro e w' ⟨rfl, ⟨nd, rfl⟩⟩; refine ⟨_, rfl, ?_⟩))
           go_ret3
           exact ⟨_, re, by first | exact Kd.R_nil _ _ _ _ _ | exact Kd.N_nil _ _ _ _ _ | exact Kd.V_nil _ _ _ _ _ | exact Kd.Q_nil _ _ _ _ _ | exact Kd.S_nil _ _ _ _ _, bl⟩
          ·rw [if_neg c21] at H
           have c21b0 := decide_eq_false c21
           clear c21
           replace H := Option.bind_eq_some_iff.mp H
           obtain ⟨t497, A230, H⟩ := H
           replace H : (incunableref06_twoRow.l0 kj3 l0 t490 l2 (l2.length : Int) t497 (wrap64 (t492 + t489)) (wrap64 (1 - x12_1))) = some (r1, r2, r3) := H
           have A23 := Aside0.mk A230
           clear A230
           have H' := Aside0.mk H
           clear H
           go_wp2_with (first | ((with_reducible refine gf 99 rfl ?_); refine gL (some 36) rfl rfl Tryd.func99 rfl #[.slice A0 l0.length c0, .int .i64 x1_1] rfl ?_; (with_reducible refine (incunableref06_take.calls kj3 _ _ l0 x1_1 t488 t489 t490 t491 _ ?side1 ?side2 A7.out).mono ?_); (case side1 => exact cU (Kd.C_below HR0.out HB.out)); (case side2 => exact HC0.out); rintro e w24 ⟨rfl, hb⟩; refine ⟨_, rfl, ?_⟩; have n_ := aC (Kd.R_below (rU HO_10.out) hb) (aE (bs hb)); clear HO_10 HB; obtain ⟨HO_10, HB⟩ := n_; (try clear hb)) | ((with_reducible refine gf 69 rfl ?_); refine gL (some 48) rfl rfl Tryd.func69 rfl #[.slice A2 l2.length c2, .int .i64 x11_1, .int .i64 x12_1] rfl ?_; (with_reducible refine (incunableref06_change.calls kj3 _ _ l2 x11_1 x12_1 t492 _ ?side1 ?side2 A9.out).mono ?_); (case side1 => exact cU (Kd.C_below HR2.out HB.out)); (case side2 => exact HC2.out); rintro e w' ⟨rfl, ⟨nd, rfl⟩⟩; refine ⟨_, rfl, ?_⟩) | ((with_reducible refine gf 70 rfl ?_); refine gL (some 52) rfl rfl Tryd.func70 rfl #[.slice A2 l2.length c2, .int .i64 t492, .int .i64 x12_1] rfl ?_; (with_reducible refine (incunableref06_first.calls kj3 _ _ l2 t492 x12_1 t493 _ ?side1 ?side2 A10.out).mono ?_); (case side1 => exact cU (Kd.C_below HR2.out bl)); (case side2 => exact HC2.out); rintro e w' ⟨rfl, ⟨nd, rfl⟩⟩; refine ⟨_, rfl, ?_⟩; obtain ⟨Ao25, co25, eo25⟩ := Kd.R_slice HO_10.out; subst eo25) | ((with_reducible refine gf 100 rfl ?_); refine gL (some 149) rfl rfl Tryd.func100 rfl #[.slice Ao25 x10_1.length co25, .int .i64 (wrap64 (t492 + t489)), .int .i64 x12_1] rfl ?_; (with_reducible refine (incunableref06_paint.calls kj3 _ _ x10_1 (wrap64 (t492 + t489)) x12_1 t497 _ ?side1 ?side2 A23.out).mono ?_); (case side1 => exact cU (Kd.R_reads' HO_10.out).2.2); (case side2 => exact (Kd.R_reads' HO_10.out).2.1); rintro e w26 ⟨v498, rfl, ho0, hb⟩; refine ⟨_, rfl, ?_⟩; have n_ := aC (Kd.R_elder' (rU HO_10.out) (Kd.R_base ho0) hb) (aC (Kd.R_lower (Kd.R_new' ho0 (Kd.R_lt (rU HO_10.out))) bz) (aE (bs hb))); clear HO_10 HB; obtain ⟨HO_10, HO499, HB⟩ := n_; (try clear hb); (try clear ho0)))
           go_roundg kj3
           case measure => have := HK1.out; have := HJ3.out; omega
           case rel => exact ⟨(t490), (t497), (wrap64 (t492 + t489)), (wrap64 (1 - x12_1)), rq, rq, rq, H', ⟨by have := HK1.out; have := HJ3.out; omega⟩, ⟨rU (Kd.R_mono HO499.out (fun _ hk => trivial))⟩, ⟨bl⟩⟩
        ·rw [if_neg c18] at H
         have c18b0 := beq_eq_false_iff_ne.mpr c18
         have c18b1 := bne_iff_ne.mpr c18
         replace H := Option.bind_eq_some_iff.mp H
         obtain ⟨⟨t500, t501, t502⟩, A270, H⟩ := H
         replace H : (if t502 = 0 then (if t500 = 0 then (if x11_1 ≥ 0 then (incunableref06_twoRow.j2 kj3 l0 l2 (l2.length : Int) x10_1 x12_1 t501 (wrap64 ((mx x11_1 0) + t500)) true) else (incunableref06_twoRow.j2 kj3 l0 l2 (l2.length : Int) x10_1 x12_1 t501 (wrap64 ((mx x11_1 0) + t500)) (decide ((wrap64 ((mx x11_1 0) + t500)) > (l2.length : Int))))) else (incunableref06_twoRow.j2 kj3 l0 l2 (l2.length : Int) x10_1 x12_1 t501 (wrap64 ((mx x11_1 0) + t500)) (decide ((wrap64 ((mx x11_1 0) + t500)) > (l2.length : Int))))) else (some (([] : List Int), 0, t502))) = some (r1, r2, r3) := H
         have A27 := Aside0.mk A270
         clear A270
         by_cases c28 : t502 = 0
         ·rw [if_pos c28] at H
          have c28b0 := beq_iff_eq.mpr c28
          have c28b1 := bne_eq_false_iff_eq.mpr c28
          clear c28
          obtain ⟨ji29, hji29⟩ : ∃ j_ : Int, (mx x11_1 0) = j_ := ⟨_, rfl⟩
          replace H : (if t500 = 0 then (if x11_1 ≥ 0 then (incunableref06_twoRow.j2 kj3 l0 l2 (l2.length : Int) x10_1 x12_1 t501 (wrap64 ((ji29) + t500)) true) else (incunableref06_twoRow.j2 kj3 l0 l2 (l2.length : Int) x10_1 x12_1 t501 (wrap64 ((ji29) + t500)) (decide ((wrap64 ((ji29) + t500)) > (l2.length : Int))))) else (incunableref06_twoRow.j2 kj3 l0 l2 (l2.length : Int) x10_1 x12_1 t501 (wrap64 ((ji29) + t500)) (decide ((wrap64 ((ji29) + t500)) > (l2.length : Int))))) = some (r1, r2, r3) := by first | (rw [hji29] at H; exact H) | (simp only [hji29] at H ⊢; exact H)
          (try rw [hji29] at A7)
          (try rw [hji29] at A9)
          (try rw [hji29] at A10)
          (try rw [hji29] at A27)
          have hji29_ : (if x11_1 < 0 then 0 else x11_1) = ji29 := hji29
          have HC30 := Aside0.mk H
          clear H
          go_upto_region 16 with (first | ((with_reducible refine gf 99 rfl ?_); refine gL (some 36) rfl rfl Tryd.func99 rfl #[.slice A0 l0.length c0, .int .i64 x1_1] rfl ?_; (with_reducible refine (incunableref06_take.calls kj3 _ _ l0 x1_1 t488 t489 t490 t491 _ ?side1 ?side2 A7.out).mono ?_); (case side1 => exact cU (Kd.C_below HR0.out HB.out)); (case side2 => exact HC0.out); rintro e w31 ⟨rfl, hb⟩; refine ⟨_, rfl, ?_⟩; have n_ := aC (Kd.R_below (rU HO_10.out) hb) (aE (bs hb)); clear HO_10 HB; obtain ⟨HO_10, HB⟩ := n_; (try clear hb)) | ((with_reducible refine gf 69 rfl ?_); refine gL (some 48) rfl rfl Tryd.func69 rfl #[.slice A2 l2.length c2, .int .i64 x11_1, .int .i64 x12_1] rfl ?_; (with_reducible refine (incunableref06_change.calls kj3 _ _ l2 x11_1 x12_1 t492 _ ?side1 ?side2 A9.out).mono ?_); (case side1 => exact cU (Kd.C_below HR2.out HB.out)); (case side2 => exact HC2.out); rintro e w' ⟨rfl, ⟨nd, rfl⟩⟩; refine ⟨_, rfl, ?_⟩) | ((with_reducible refine gf 70 rfl ?_); refine gL (some 52) rfl rfl Tryd.func70 rfl #[.slice A2 l2.length c2, .int .i64 t492, .int .i64 x12_1] rfl ?_; (with_reducible refine (incunableref06_first.calls kj3 _ _ l2 t492 x12_1 t493 _ ?side1 ?side2 A10.out).mono ?_); (case side1 => exact cU (Kd.C_below HR2.out bl)); (case side2 => exact HC2.out); rintro e w' ⟨rfl, ⟨nd, rfl⟩⟩; refine ⟨_, rfl, ?_⟩) | ((with_reducible refine gf 101 rfl ?_); refine gL (some 58) rfl rfl Tryd.func101 rfl #[.slice A0 l0.length c0, .int .i64 t490, .int .i64 x12_1] rfl ?_; (with_reducible refine (incunableref06_run.calls kj3 _ _ l0 t490 x12_1 t500 t501 t502 _ ?side1 ?side2 A27.out).mono ?_); (case side1 => exact cU (Kd.C_below HR0.out bl)); (case side2 => exact HC0.out); rintro e w32 ⟨rfl, hb⟩; refine ⟨_, rfl, ?_⟩; have n_ := aC (Kd.R_below (rU HO_10.out) hb) (aE (bs hb)); clear HO_10 HB; obtain ⟨HO_10, HB⟩ := n_; (try clear hb)))
          (try simp only [Act.put, List.setIfInBounds_toArray, List.set_cons_zero, List.set_cons_succ])
          go_cut [79] (fun v79 wc => ∃ (kq : Nat) (x79_29 : Bool), v79 = .bool x79_29 ∧ Aside0 (incunableref06_twoRow.j2 kq l0 l2 (l2.length : Int) x10_1 x12_1 t501 (wrap64 ((ji29) + t500)) x79_29 = some (r1, r2, r3)) ∧ Aside0 (kq ≤ kj3) ∧ Aside0 (Kd.R (Kd.int .u8) 5 wc w.heap.size (fun _ => True) u10 x10_1) ∧ Aside0 (Below w.heap.size w wc))
          case first =>
           have H := HC30.out
           clear HC30
           by_cases c33 : t500 = 0
           ·rw [if_pos c33] at H
            have c33b0 := beq_iff_eq.mpr c33
            have c33b1 := bne_eq_false_iff_eq.mpr c33
            clear c33
            (first | rw [c33b0] | (simp only [i64_w, i32_w]; rw [c33b0]) | skip)
            by_cases c34 : x11_1 ≥ 0
            ·rw [if_pos c34] at H
             have c34b0 := decide_eq_true c34
             clear c34
             have H' := Aside0.mk H
             clear H
             go_wp2
             go_meet
             case rel => exact ⟨_, (true), rq, H', ⟨by have := HK1.out; have := HJ3.out; first | omega | exact Nat.le_refl _⟩, ⟨rU HO_10.out⟩, ⟨bl⟩⟩
            ·rw [if_neg c34] at H
             have c34b0 := decide_eq_false c34
             clear c34
             have H' := Aside0.mk H
             clear H
             go_wp2
             go_meet
             case rel => exact ⟨_, (decide ((wrap64 ((ji29) + t500)) > (l2.length : Int))), (by first | rfl | (simp; done) | (simp only [← hji29] <;> (first | rfl | simp)) | (simp [*]; done)), H', ⟨by have := HK1.out; have := HJ3.out; first | omega | exact Nat.le_refl _⟩, ⟨rU HO_10.out⟩, ⟨bl⟩⟩
           ·rw [if_neg c33] at H
            have c33b0 := beq_eq_false_iff_ne.mpr c33
            have c33b1 := bne_iff_ne.mpr c33
            (first | rw [c33b0] | (simp only [i64_w, i32_w]; rw [c33b0]) | skip)
            have H' := Aside0.mk H
            clear H
            go_wp2
            go_meet
            case rel => exact ⟨_, (decide ((wrap64 ((ji29) + t500)) > (l2.length : Int))), (by first | rfl | (simp; done) | (simp only [← hji29] <;> (first | rfl | simp)) | (simp [*]; done)), H', ⟨by have := HK1.out; have := HJ3.out; first | omega | exact Nat.le_refl _⟩, ⟨rU HO_10.out⟩, ⟨bl⟩⟩
          case rest =>
           clear HC30
           try clear c2
           obtain ⟨kq, x79_29, rfl, HA, HJ29, HO_10, HB⟩ := hcut
           cases kq with
           | zero => exact absurd HA.out (by simp [incunableref06_twoRow.j2])
           | succ kj29 =>
            have H := HA.out
            clear HA
            simp only [incunableref06_twoRow.j2] at H
            by_cases c35 : x79_29 = true
            ·subst c35
             have H1 : (some (([] : List Int), 0, 3)) = some (r1, r2, r3) := by rw [if_pos rfl] at H; exact H
             clear H
             have H := H1
             clear H1
             simp only [Option.some.injEq, Prod.mk.injEq] at H
             obtain ⟨rfl, rfl, rfl⟩ := H
             go_wp2
             go_ret3
             exact ⟨_, by first | rfl | (simp [errW_none, errW_some] <;> rfl) | (simp only [← hji29]; first | rfl | (simp [errW_none, errW_some] <;> rfl)) | (simp [*, errW_none, errW_some] <;> rfl), by first | exact Kd.R_nil _ _ _ _ _ | exact Kd.N_nil _ _ _ _ _ | exact Kd.V_nil _ _ _ _ _ | exact Kd.Q_nil _ _ _ _ _ | exact Kd.S_nil _ _ _ _ _, bl⟩
            ·replace c35 := Bool.eq_false_iff.mpr c35
             subst c35
             have H1 : ((incunableref06_run.f kj29 l0 t501 (wrap64 (1 - x12_1))).bind fun bt503 => (if bt503.2.2 = 0 then (if ((bt503.1 == 0) != ((wrap64 ((ji29) + t500)) == (l2.length : Int))) = true then (incunableref06_twoRow.j3 kj29 l0 l2 (l2.length : Int) x10_1 x12_1 bt503.2.1 (wrap64 ((ji29) + t500)) bt503.1 true) else (incunableref06_twoRow.j3 kj29 l0 l2 (l2.length : Int) x10_1 x12_1 bt503.2.1 (wrap64 ((ji29) + t500)) bt503.1 (decide ((wrap64 ((wrap64 ((ji29) + t500)) + bt503.1)) > (l2.length : Int))))) else (some (([] : List Int), 0, bt503.2.2)))) = some (r1, r2, r3) := by rw [if_neg (show ¬ (false = true) by decide)] at H; exact H
             clear H
             have H := H1
             clear H1
             replace H := Option.bind_eq_some_iff.mp H
             obtain ⟨⟨t503, t504, t505⟩, A360, H⟩ := H
             replace H : (if t505 = 0 then (if ((t503 == 0) != ((wrap64 ((ji29) + t500)) == (l2.length : Int))) = true then (incunableref06_twoRow.j3 kj29 l0 l2 (l2.length : Int) x10_1 x12_1 t504 (wrap64 ((ji29) + t500)) t503 true) else (incunableref06_twoRow.j3 kj29 l0 l2 (l2.length : Int) x10_1 x12_1 t504 (wrap64 ((ji29) + t500)) t503 (decide ((wrap64 ((wrap64 ((ji29) + t500)) + t503)) > (l2.length : Int))))) else (some (([] : List Int), 0, t505))) = some (r1, r2, r3) := H
             have A36 := Aside0.mk A360
             clear A360
             by_cases c37 : t505 = 0
             ·rw [if_pos c37] at H
              have c37b0 := beq_iff_eq.mpr c37
              have c37b1 := bne_eq_false_iff_eq.mpr c37
              clear c37
              have HC38 := Aside0.mk H
              clear H
              go_upto_region 21 with (first | ((with_reducible refine gf 101 rfl ?_); refine gL (some 85) rfl rfl Tryd.func101 rfl #[.slice A0 l0.length c0, .int .i64 t501, .int .i64 (wrap64 (1 - x12_1))] rfl ?_; (with_reducible refine (incunableref06_run.calls kj29 _ _ l0 t501 (wrap64 (1 - x12_1)) t503 t504 t505 _ ?side1 ?side2 A36.out).mono ?_); (case side1 => exact cU (Kd.C_below HR0.out HB.out)); (case side2 => exact HC0.out); rintro e w39 ⟨rfl, hb⟩; refine ⟨_, rfl, ?_⟩; have n_ := aC (Kd.R_below (rU HO_10.out) hb) (aE (bs hb)); clear HO_10 HB; obtain ⟨HO_10, HB⟩ := n_; (try clear hb)))
              (try simp only [Act.put, List.setIfInBounds_toArray, List.set_cons_zero, List.set_cons_succ])
              go_cut [104] (fun v104 wc => ∃ (kq : Nat) (x104_37 : Bool), v104 = .bool x104_37 ∧ Aside0 (incunableref06_twoRow.j3 kq l0 l2 (l2.length : Int) x10_1 x12_1 t504 (wrap64 ((ji29) + t500)) t503 x104_37 = some (r1, r2, r3)) ∧ Aside0 (kq ≤ kj29) ∧ Aside0 (Kd.R (Kd.int .u8) 5 wc w.heap.size (fun _ => True) u10 x10_1) ∧ Aside0 (Below w.heap.size w wc))
              case first =>
               have H := HC38.out
               clear HC38
               by_cases c40 : ((t503 == 0) != ((wrap64 ((ji29) + t500)) == (l2.length : Int))) = true
               ·rw [if_pos c40] at H
                have c40b0 : ((t503 == 0) != ((wrap64 ((ji29) + t500)) == (l2.length : Int))) = true := c40
                (try (have c40b1 : decide ((t503 == 0) = ((wrap64 ((ji29) + t500)) == (l2.length : Int))) = false := by simpa using c40))
                (try (have c40b2 : ((t503 == 0) == ((wrap64 ((ji29) + t500)) == (l2.length : Int))) = false := by simpa using c40))
                (try (have c40b3 : ¬ ((t503 == 0) = ((wrap64 ((ji29) + t500)) == (l2.length : Int))) := by simpa using c40))
                clear c40
                (first | rw [c40b0] | (simp only [i64_w, i32_w]; rw [c40b0]) | skip)
                have H' := Aside0.mk H
                clear H
                go_wp2
                go_meet
                case rel => exact ⟨_, (true), rq, H', ⟨by have := HK1.out; have := HJ3.out; have := HJ29.out; first | omega | exact Nat.le_refl _⟩, ⟨rU HO_10.out⟩, ⟨bl⟩⟩
               ·rw [if_neg c40] at H
                have c40b0 : ((t503 == 0) != ((wrap64 ((ji29) + t500)) == (l2.length : Int))) = false := by simpa using c40
                (try (have c40b1 : decide ((t503 == 0) = ((wrap64 ((ji29) + t500)) == (l2.length : Int))) = true := by simpa using c40))
                (try (have c40b2 : ((t503 == 0) == ((wrap64 ((ji29) + t500)) == (l2.length : Int))) = true := by simpa using c40))
                clear c40
                (first | rw [c40b0] | (simp only [i64_w, i32_w]; rw [c40b0]) | skip)
                have H' := Aside0.mk H
                clear H
                go_wp2
                go_meet
                case rel => exact ⟨_, (decide ((wrap64 ((wrap64 ((ji29) + t500)) + t503)) > (l2.length : Int))), (by first | rfl | (simp; done) | (simp only [← hji29] <;> (first | rfl | simp)) | (simp [*]; done)), H', ⟨by have := HK1.out; have := HJ3.out; have := HJ29.out; first | omega | exact Nat.le_refl _⟩, ⟨rU HO_10.out⟩, ⟨bl⟩⟩
              case rest =>
               clear HC38
               try clear c2
               obtain ⟨kq, x104_37, rfl, HA, HJ37, HO_10, HB⟩ := hcut
               cases kq with
               | zero => exact absurd HA.out (by simp [incunableref06_twoRow.j3])
               | succ kj37 =>
                have H := HA.out
                clear HA
                simp only [incunableref06_twoRow.j3] at H
                by_cases c41 : x104_37 = true
                ·subst c41
                 have H1 : (some (([] : List Int), 0, 3)) = some (r1, r2, r3) := by rw [if_pos rfl] at H; exact H
                 clear H
                 have H := H1
                 clear H1
                 simp only [Option.some.injEq, Prod.mk.injEq] at H
                 obtain ⟨rfl, rfl, rfl⟩ := H
                 go_wp2
                 go_ret3
                 exact ⟨_, by first | rfl | (simp [errW_none, errW_some] <;> rfl) | (simp only [← hji29]; first | rfl | (simp [errW_none, errW_some] <;> rfl)) | (simp [*, errW_none, errW_some] <;> rfl), by first | exact Kd.R_nil _ _ _ _ _ | exact Kd.N_nil _ _ _ _ _ | exact Kd.V_nil _ _ _ _ _ | exact Kd.Q_nil _ _ _ _ _ | exact Kd.S_nil _ _ _ _ _, bl⟩
                ·replace c41 := Bool.eq_false_iff.mpr c41
                 subst c41
                 have H1 : ((incunableref06_paint.f kj37 x10_1 (wrap64 ((ji29) + t500)) x12_1).bind fun t506 => ((incunableref06_paint.f kj37 t506 (wrap64 ((wrap64 ((ji29) + t500)) + t503)) (wrap64 (1 - x12_1))).bind fun t509 => (incunableref06_twoRow.l0 kj37 l0 t504 l2 (l2.length : Int) t509 (wrap64 ((wrap64 ((ji29) + t500)) + t503)) x12_1))) = some (r1, r2, r3) := by rw [if_neg (show ¬ (false = true) by decide)] at H; exact H
                 clear H
                 have H := H1
                 clear H1
                 replace H := Option.bind_eq_some_iff.mp H
                 obtain ⟨t506, A420, H⟩ := H
                 replace H : ((incunableref06_paint.f kj37 t506 (wrap64 ((wrap64 ((ji29) + t500)) + t503)) (wrap64 (1 - x12_1))).bind fun t509 => (incunableref06_twoRow.l0 kj37 l0 t504 l2 (l2.length : Int) t509 (wrap64 ((wrap64 ((ji29) + t500)) + t503)) x12_1)) = some (r1, r2, r3) := H
                 have A42 := Aside0.mk A420
                 clear A420
                 replace H := Option.bind_eq_some_iff.mp H
                 obtain ⟨t509, A430, H⟩ := H
                 replace H : (incunableref06_twoRow.l0 kj37 l0 t504 l2 (l2.length : Int) t509 (wrap64 ((wrap64 ((ji29) + t500)) + t503)) x12_1) = some (r1, r2, r3) := H
                 have A43 := Aside0.mk A430
                 clear A430
                 have H' := Aside0.mk H
                 clear H
                 obtain ⟨Ao44, co44, eo44⟩ := Kd.R_slice HO_10.out
                 subst eo44
                 go_wp2_with (first | ((with_reducible refine gf 100 rfl ?_); refine goesL_ (some 108) rfl rfl Tryd.func100 (by kernel_rfl) rfl #[.slice Ao44 x10_1.length co44, .int .i64 (wrap64 ((ji29) + t500)), .int .i64 x12_1] rfl (by (try simp only [List.map_toArray, List.map_cons, List.map_nil]); first | done | (simp only [hji29]; rfl) | rfl | (simp only [List.length_drop, List.length_take]; rfl)) ?_; (with_reducible refine (incunableref06_paint.calls kj37 _ _ x10_1 (wrap64 ((ji29) + t500)) x12_1 t506 _ ?side1 ?side2 A42.out).mono ?_); (case side1 => exact cU (Kd.R_reads' HO_10.out).2.2); (case side2 => exact (Kd.R_reads' HO_10.out).2.1); rintro e w45 ⟨v507, rfl, ho0, hb⟩; refine ⟨_, rfl, ?_⟩; have n_ := aC (Kd.R_elder' (rU HO_10.out) (Kd.R_base ho0) hb) (aC (Kd.R_lower (Kd.R_new' ho0 (Kd.R_lt (rU HO_10.out))) bz) (aE (bs hb))); clear HO_10 HB; obtain ⟨HO_10, HO508, HB⟩ := n_; (try clear hb); (try clear ho0); obtain ⟨Ao46, co46, eo46⟩ := Kd.R_slice HO508.out; subst eo46) | ((with_reducible refine gf 100 rfl ?_); refine goesL_ (some 114) rfl rfl Tryd.func100 (by kernel_rfl) rfl #[.slice Ao46 t506.length co46, .int .i64 (wrap64 ((wrap64 ((ji29) + t500)) + t503)), .int .i64 (wrap64 (1 - x12_1))] rfl (by (try simp only [List.map_toArray, List.map_cons, List.map_nil]); first | done | (simp only [hji29]; rfl) | rfl | (simp only [List.length_drop, List.length_take]; rfl)) ?_; (with_reducible refine (incunableref06_paint.calls kj37 _ _ t506 (wrap64 ((wrap64 ((ji29) + t500)) + t503)) (wrap64 (1 - x12_1)) t509 _ ?side1 ?side2 A43.out).mono ?_); (case side1 => exact cU (Kd.R_reads' HO508.out).2.2); (case side2 => exact (Kd.R_reads' HO508.out).2.1); rintro e w47 ⟨v510, rfl, ho0, hb⟩; refine ⟨_, rfl, ?_⟩; have n_ := aC (Kd.R_elder' (rU HO_10.out) (Kd.R_base ho0) hb) (aC (Kd.R_elder' (rU HO508.out) (Kd.R_base ho0) hb) (aC (Kd.R_lower (Kd.R_new' (Kd.R_new' ho0 (Kd.R_lt (rU HO_10.out))) (Kd.R_lt (rU HO508.out))) bz) (aE (bs hb)))); clear HO_10 HO508 HB; obtain ⟨HO_10, HO508, HO511, HB⟩ := n_; (try clear hb); (try clear ho0)))
                 go_roundg kj37
                 case measure => have := HK1.out; have := HJ3.out; have := HJ29.out; have := HJ37.out; omega
                 case rel => exact ⟨(t504), (t509), (wrap64 ((wrap64 ((ji29) + t500)) + t503)), (x12_1), rq, (by first | rfl | (simp; done) | (simp only [← hji29] <;> (first | rfl | simp)) | (simp [*]; done)), rq, H', ⟨by have := HK1.out; have := HJ3.out; have := HJ29.out; have := HJ37.out; omega⟩, ⟨rU (Kd.R_mono HO511.out (fun _ hk => trivial))⟩, ⟨bl⟩⟩
             ·rw [if_neg c37] at H
              have c37b0 := beq_eq_false_iff_ne.mpr c37
              have c37b1 := bne_iff_ne.mpr c37
              simp only [Option.some.injEq, Prod.mk.injEq] at H
              obtain ⟨rfl, rfl, rfl⟩ := H
              go_wp2_with (first | ((with_reducible refine gf 101 rfl ?_); refine gL (some 85) rfl rfl Tryd.func101 rfl #[.slice A0 l0.length c0, .int .i64 t501, .int .i64 (wrap64 (1 - x12_1))] rfl ?_; (with_reducible refine (incunableref06_run.calls kj29 _ _ l0 t501 (wrap64 (1 - x12_1)) t503 t504 t505 _ ?side1 ?side2 A36.out).mono ?_); (case side1 => exact cU (Kd.C_below HR0.out HB.out)); (case side2 => exact HC0.out); rintro e w48 ⟨rfl, hb⟩; refine ⟨_, rfl, ?_⟩; have n_ := aC (Kd.R_below (rU HO_10.out) hb) (aE (bs hb)); clear HO_10 HB; obtain ⟨HO_10, HB⟩ := n_; (try clear hb)))
              go_ret3
              exact ⟨_, by first | rfl | (simp [errW_none, errW_some] <;> rfl) | (simp only [← hji29]; first | rfl | (simp [errW_none, errW_some] <;> rfl)) | (simp [*, errW_none, errW_some] <;> rfl), by first | exact Kd.R_nil _ _ _ _ _ | exact Kd.N_nil _ _ _ _ _ | exact Kd.V_nil _ _ _ _ _ | exact Kd.Q_nil _ _ _ _ _ | exact Kd.S_nil _ _ _ _ _, bl⟩
         ·rw [if_neg c28] at H
          have c28b0 := beq_eq_false_iff_ne.mpr c28
          have c28b1 := bne_iff_ne.mpr c28
          simp only [Option.some.injEq, Prod.mk.injEq] at H
          obtain ⟨rfl, rfl, rfl⟩ := H
          go_wp2_with (first | ((with_reducible refine gf 99 rfl ?_); refine gL (some 36) rfl rfl Tryd.func99 rfl #[.slice A0 l0.length c0, .int .i64 x1_1] rfl ?_; (with_reducible refine (incunableref06_take.calls kj3 _ _ l0 x1_1 t488 t489 t490 t491 _ ?side1 ?side2 A7.out).mono ?_); (case side1 => exact cU (Kd.C_below HR0.out HB.out)); (case side2 => exact HC0.out); rintro e w49 ⟨rfl, hb⟩; refine ⟨_, rfl, ?_⟩; have n_ := aC (Kd.R_below (rU HO_10.out) hb) (aE (bs hb)); clear HO_10 HB; obtain ⟨HO_10, HB⟩ := n_; (try clear hb)) | ((with_reducible refine gf 69 rfl ?_); refine gL (some 48) rfl rfl Tryd.func69 rfl #[.slice A2 l2.length c2, .int .i64 x11_1, .int .i64 x12_1] rfl ?_; (with_reducible refine (incunableref06_change.calls kj3 _ _ l2 x11_1 x12_1 t492 _ ?side1 ?side2 A9.out).mono ?_); (case side1 => exact cU (Kd.C_below HR2.out HB.out)); (case side2 => exact HC2.out); rintro e w' ⟨rfl, ⟨nd, rfl⟩⟩; refine ⟨_, rfl, ?_⟩) | ((with_reducible refine gf 70 rfl ?_); refine gL (some 52) rfl rfl Tryd.func70 rfl #[.slice A2 l2.length c2, .int .i64 t492, .int .i64 x12_1] rfl ?_; (with_reducible refine (incunableref06_first.calls kj3 _ _ l2 t492 x12_1 t493 _ ?side1 ?side2 A10.out).mono ?_); (case side1 => exact cU (Kd.C_below HR2.out bl)); (case side2 => exact HC2.out); rintro e w' ⟨rfl, ⟨nd, rfl⟩⟩; refine ⟨_, rfl, ?_⟩) | ((with_reducible refine gf 101 rfl ?_); refine gL (some 58) rfl rfl Tryd.func101 rfl #[.slice A0 l0.length c0, .int .i64 t490, .int .i64 x12_1] rfl ?_; (with_reducible refine (incunableref06_run.calls kj3 _ _ l0 t490 x12_1 t500 t501 t502 _ ?side1 ?side2 A27.out).mono ?_); (case side1 => exact cU (Kd.C_below HR0.out bl)); (case side2 => exact HC0.out); rintro e w50 ⟨rfl, hb⟩; refine ⟨_, rfl, ?_⟩; have n_ := aC (Kd.R_below (rU HO_10.out) hb) (aE (bs hb)); clear HO_10 HB; obtain ⟨HO_10, HB⟩ := n_; (try clear hb)))
          go_ret3
          exact ⟨_, re, by first | exact Kd.R_nil _ _ _ _ _ | exact Kd.N_nil _ _ _ _ _ | exact Kd.V_nil _ _ _ _ _ | exact Kd.Q_nil _ _ _ _ _ | exact Kd.S_nil _ _ _ _ _, bl⟩
      ·rw [if_neg c8] at H
       have c8b0 := beq_eq_false_iff_ne.mpr c8
       have c8b1 := bne_iff_ne.mpr c8
       simp only [Option.some.injEq, Prod.mk.injEq] at H
       obtain ⟨rfl, rfl, rfl⟩ := H
       go_wp2_with (first | ((with_reducible refine gf 99 rfl ?_); refine gL (some 36) rfl rfl Tryd.func99 rfl #[.slice A0 l0.length c0, .int .i64 x1_1] rfl ?_; (with_reducible refine (incunableref06_take.calls kj3 _ _ l0 x1_1 t488 t489 t490 t491 _ ?side1 ?side2 A7.out).mono ?_); (case side1 => exact cU (Kd.C_below HR0.out HB.out)); (case side2 => exact HC0.out); rintro e w51 ⟨rfl, hb⟩; refine ⟨_, rfl, ?_⟩; have n_ := aC (Kd.R_below (rU HO_10.out) hb) (aE (bs hb)); clear HO_10 HB; obtain ⟨HO_10, HB⟩ := n_; (try clear hb)))
       go_ret3
       exact ⟨_, re, by first | exact Kd.R_nil _ _ _ _ _ | exact Kd.N_nil _ _ _ _ _ | exact Kd.V_nil _ _ _ _ _ | exact Kd.Q_nil _ _ _ _ _ | exact Kd.S_nil _ _ _ _ _, bl⟩
     ·replace c6 := Bool.eq_false_iff.mpr c6
      subst c6
      have H1 : (some (x10_1, x1_1, 0)) = some (r1, r2, r3) := by rw [if_neg (show ¬ (false = true) by decide)] at H; exact H
      clear H
      have H := H1
      clear H1
      simp only [Option.some.injEq, Prod.mk.injEq] at H
      obtain ⟨rfl, rfl, rfl⟩ := H
      go_wp2
      go_ret3
      exact ⟨_, re, rU HO_10.out, bl⟩
def incunableref06_oneRow.l0 : Nat → List Int → Int → Int → List Int → Int → Int → Option (List Int × Int × Int)
 | 0, _, _, _, _, _, _ => none
 | k + 1, x0, x1, x2, x9, x10, x11 => if (x9.length : Int) < x2 then ((incunableref06_run.f k x0 x1 x10).bind fun bt512 => (if bt512.2.2 = 0 then (if bt512.1 = 0 then (if x11 > 0 then (some (([] : List Int), 0, 3)) else (if bt512.1 > (wrap64 (x2 - (x9.length : Int))) then (some (([] : List Int), 0, 3)) else ((incunableref06_paint.f k x9 (wrap64 ((x9.length : Int) + bt512.1)) x10).bind fun t515 => (incunableref06_oneRow.l0 k x0 bt512.2.1 x2 t515 (wrap64 (1 - x10)) (wrap64 (x11 + 1)))))) else (if bt512.1 > (wrap64 (x2 - (x9.length : Int))) then (some (([] : List Int), 0, 3)) else ((incunableref06_paint.f k x9 (wrap64 ((x9.length : Int) + bt512.1)) x10).bind fun t518 => (incunableref06_oneRow.l0 k x0 bt512.2.1 x2 t518 (wrap64 (1 - x10)) (wrap64 (x11 + 1)))))) else (some (([] : List Int), 0, bt512.2.2)))) else (some (x9, x1, 0))
def incunableref06_oneRow.f (k : Nat) (l0 : List Int) (a1 : Int) (a2 : Int) : Option (List Int × Int × Int) := incunableref06_oneRow.l0 k l0 a1 a2 ([] : List Int) 0 0
theorem incunableref06_oneRow.mono_l : ∀ k, (∀ y0 y1 y2 y3 y4 y5, LeO (incunableref06_oneRow.l0 k y0 y1 y2 y3 y4 y5) (incunableref06_oneRow.l0 (k + 1) y0 y1 y2 y3 y4 y5))
 | 0 => fun _ _ _ _ _ _ r h => by simp [incunableref06_oneRow.l0] at h
 | k + 1 => by
  have ih0 := incunableref06_oneRow.mono_l k
  ·intro y0 y1 y2 y3 y4 y5
   unfold incunableref06_oneRow.l0
   repeat' first
   | (with_reducible exact ih0 _ _ _ _ _ _)
   | (with_reducible exact incunableref06_paint.mono _ _ _ _)
   | (with_reducible exact incunableref06_run.mono _ _ _ _)
   | (with_reducible first | exact LeO.refl _ | exact LeO.none _ | refine LeO.ite ?_ ?_ | refine LeO.bind ?_ (fun _ => ?_))
   | exact ih0 _ _ _ _ _ _
   | exact incunableref06_paint.mono _ _ _ _
   | exact incunableref06_run.mono _ _ _ _
   | exact LeO.none _ | refine LeO.ite ?_ ?_ | refine LeO.bind ?_ (fun _ => ?_)
theorem incunableref06_oneRow.mono : ∀ a0 a1 a2 k, LeO (incunableref06_oneRow.f k a0 a1 a2) (incunableref06_oneRow.f (k + 1) a0 a1 a2) := by
 intro a0 a1 a2 k
 have ih0 := incunableref06_oneRow.mono_l k
 unfold incunableref06_oneRow.f
 repeat' first
   | (with_reducible exact ih0 _ _ _ _ _ _)
   | (with_reducible exact incunableref06_paint.mono _ _ _ _)
   | (with_reducible exact incunableref06_run.mono _ _ _ _)
   | (with_reducible first | exact LeO.refl _ | exact LeO.none _ | refine LeO.ite ?_ ?_ | refine LeO.bind ?_ (fun _ => ?_))
   | exact ih0 _ _ _ _ _ _
   | exact incunableref06_paint.mono _ _ _ _
   | exact incunableref06_run.mono _ _ _ _
   | exact LeO.none _ | refine LeO.ite ?_ ?_ | refine LeO.bind ?_ (fun _ => ?_)
set_option maxHeartbeats 8000000 in
set_option maxRecDepth 100000 in
theorem incunableref06_oneRow.calls (k : Nat) (A0 : Option Addr) (c0 : Nat) (l0 : List Int) (a1 : Int) (a2 : Int) (r1 : List Int) (r2 : Int) (r3 : Int) (w : World) (hr0 : Kd.C (Kd.int .u8) w A0 l0.length l0) (hc0 : l0.length ≤ c0) (h : incunableref06_oneRow.f k l0 a1 a2 = some (r1, r2, r3)) :
  Calls Tryd.prog 83 #[.slice A0 l0.length c0, .int .i64 a1, .int .i64 a2] w fun e w' => ∃ v0_ : Value, e = .returned (.tuple #[v0_, .int .i64 r2, .int .i64 r3]) ∧ Kd.R (Kd.int .u8) 5 w' w.heap.size (fun _ => True) v0_ r1 ∧ Below w.heap.size w w' := by
 have HR0 := Aside0.mk hr0
 have HC0 := Aside0.mk hc0
 clear hr0 hc0
 have HB := Aside0.mk (Below.refl w.heap.size w)
 have H : (incunableref06_oneRow.l0 k l0 a1 a2 ([] : List Int) 0 0) = some (r1, r2, r3) := h
 clear h
 have H' := Aside0.mk H
 clear H
 go_enter Tryd.func83, Tryd.ntmps83
 go_wp2
 go_loopg [1, 9, 10, 11] k (fun kq v1 v9 v10 v11 w' => ∃ (x1_1 : Int) (x9_1 : List Int) (x10_1 : Int) (x11_1 : Int), v1 = .int .i64 x1_1 ∧ v10 = .int .i64 x10_1 ∧ v11 = .int .i64 x11_1 ∧ Aside0 (incunableref06_oneRow.l0 kq l0 x1_1 a2 x9_1 x10_1 x11_1 = some (r1, r2, r3)) ∧ Aside0 (kq ≤ k) ∧ Aside0 (Kd.R (Kd.int .u8) 5 w' w.heap.size (fun _ => True) v9 x9_1) ∧ Aside0 (Below w.heap.size w w'))
 case atStart => exact ⟨(a1), (([] : List Int)), (0), (0), rq, rq, rq, H', ⟨Nat.le_refl _⟩, ⟨by first | exact Kd.R_nil _ _ _ _ _ | exact Kd.N_nil _ _ _ _ _ | exact Kd.V_nil _ _ _ _ _ | exact Kd.Q_nil _ _ _ _ _ | exact Kd.S_nil _ _ _ _ _⟩, ⟨bl⟩⟩
 case round =>
  clear H'
  obtain ⟨x1_1, x9_1, x10_1, x11_1, rfl, rfl, rfl, HA, HK1, HO_9, HB⟩ := hrel
  cases gk with
  | zero => exact absurd HA.out (by simp [incunableref06_oneRow.l0])
  | succ k1 =>
   have H := HA.out
   clear HA
   simp only [incunableref06_oneRow.l0] at H
   by_cases c4 : (x9_1.length : Int) < a2
   ·rw [if_pos c4] at H
    have c4b0 := decide_eq_true c4
    clear c4
    replace H := Option.bind_eq_some_iff.mp H
    obtain ⟨⟨t512, t513, t514⟩, A50, H⟩ := H
    replace H : (if t514 = 0 then (if t512 = 0 then (if x11_1 > 0 then (some (([] : List Int), 0, 3)) else (if t512 > (wrap64 (a2 - (x9_1.length : Int))) then (some (([] : List Int), 0, 3)) else ((incunableref06_paint.f k1 x9_1 (wrap64 ((x9_1.length : Int) + t512)) x10_1).bind fun t515 => (incunableref06_oneRow.l0 k1 l0 t513 a2 t515 (wrap64 (1 - x10_1)) (wrap64 (x11_1 + 1)))))) else (if t512 > (wrap64 (a2 - (x9_1.length : Int))) then (some (([] : List Int), 0, 3)) else ((incunableref06_paint.f k1 x9_1 (wrap64 ((x9_1.length : Int) + t512)) x10_1).bind fun t518 => (incunableref06_oneRow.l0 k1 l0 t513 a2 t518 (wrap64 (1 - x10_1)) (wrap64 (x11_1 + 1)))))) else (some (([] : List Int), 0, t514))) = some (r1, r2, r3) := H
    have A5 := Aside0.mk A50
    clear A50
    by_cases c6 : t514 = 0
    ·rw [if_pos c6] at H
     have c6b0 := beq_iff_eq.mpr c6
     have c6b1 := bne_eq_false_iff_eq.mpr c6
     clear c6
     by_cases c7 : t512 = 0
     ·rw [if_pos c7] at H
      have c7b0 := beq_iff_eq.mpr c7
      have c7b1 := bne_eq_false_iff_eq.mpr c7
      clear c7
      by_cases c8 : x11_1 > 0
      ·rw [if_pos c8] at H
       have c8b0 := decide_eq_true c8
       clear c8
       simp only [Option.some.injEq, Prod.mk.injEq] at H
       obtain ⟨rfl, rfl, rfl⟩ := H
       obtain ⟨Ao9, co9, eo9⟩ := Kd.R_slice HO_9.out
       subst eo9
       go_wp2_with (first | ((with_reducible refine gf 101 rfl ?_); refine gL (some 25) rfl rfl Tryd.func101 rfl #[.slice A0 l0.length c0, .int .i64 x1_1, .int .i64 x10_1] rfl ?_; (with_reducible refine (incunableref06_run.calls k1 _ _ l0 x1_1 x10_1 t512 t513 t514 _ ?side1 ?side2 A5.out).mono ?_); (case side1 => exact cU (Kd.C_below HR0.out HB.out)); (case side2 => exact HC0.out); rintro e w10 ⟨rfl, hb⟩; refine ⟨_, rfl, ?_⟩; have n_ := aC (Kd.R_below (rU HO_9.out) hb) (aE (bs hb)); clear HO_9 HB; obtain ⟨HO_9, HB⟩ := n_; (try clear hb)))
       go_ret3
       exact ⟨_, re, by first | exact Kd.R_nil _ _ _ _ _ | exact Kd.N_nil _ _ _ _ _ | exact Kd.V_nil _ _ _ _ _ | exact Kd.Q_nil _ _ _ _ _ | exact Kd.S_nil _ _ _ _ _, bl⟩
      ·rw [if_neg c8] at H
       have c8b0 := decide_eq_false c8
       clear c8
       by_cases c11 : t512 > (wrap64 (a2 - (x9_1.length : Int)))
       ·rw [if_pos c11] at H
        have c11b0 := decide_eq_true c11
        clear c11
        simp only [Option.some.injEq, Prod.mk.injEq] at H
        obtain ⟨rfl, rfl, rfl⟩ := H
        obtain ⟨Ao12, co12, eo12⟩ := Kd.R_slice HO_9.out
        subst eo12
        go_wp2_with (first | ((with_reducible refine gf 101 rfl ?_); refine gL (some 25) rfl rfl Tryd.func101 rfl #[.slice A0 l0.length c0, .int .i64 x1_1, .int .i64 x10_1] rfl ?_; (with_reducible refine (incunableref06_run.calls k1 _ _ l0 x1_1 x10_1 t512 t513 t514 _ ?side1 ?side2 A5.out).mono ?_); (case side1 => exact cU (Kd.C_below HR0.out HB.out)); (case side2 => exact HC0.out); rintro e w13 ⟨rfl, hb⟩; refine ⟨_, rfl, ?_⟩; have n_ := aC (Kd.R_below (rU HO_9.out) hb) (aE (bs hb)); clear HO_9 HB; obtain ⟨HO_9, HB⟩ := n_; (try clear hb)))
        go_ret3
        exact ⟨_, re, by first | exact Kd.R_nil _ _ _ _ _ | exact Kd.N_nil _ _ _ _ _ | exact Kd.V_nil _ _ _ _ _ | exact Kd.Q_nil _ _ _ _ _ | exact Kd.S_nil _ _ _ _ _, bl⟩
       ·rw [if_neg c11] at H
        have c11b0 := decide_eq_false c11
        clear c11
        replace H := Option.bind_eq_some_iff.mp H
        obtain ⟨t515, A140, H⟩ := H
        replace H : (incunableref06_oneRow.l0 k1 l0 t513 a2 t515 (wrap64 (1 - x10_1)) (wrap64 (x11_1 + 1))) = some (r1, r2, r3) := H
        have A14 := Aside0.mk A140
        clear A140
        have H' := Aside0.mk H
        clear H
        obtain ⟨Ao15, co15, eo15⟩ := Kd.R_slice HO_9.out
        subst eo15
        go_wp2_with (first | ((with_reducible refine gf 101 rfl ?_); refine gL (some 25) rfl rfl Tryd.func101 rfl #[.slice A0 l0.length c0, .int .i64 x1_1, .int .i64 x10_1] rfl ?_; (with_reducible refine (incunableref06_run.calls k1 _ _ l0 x1_1 x10_1 t512 t513 t514 _ ?side1 ?side2 A5.out).mono ?_); (case side1 => exact cU (Kd.C_below HR0.out HB.out)); (case side2 => exact HC0.out); rintro e w16 ⟨rfl, hb⟩; refine ⟨_, rfl, ?_⟩; have n_ := aC (Kd.R_below (rU HO_9.out) hb) (aE (bs hb)); clear HO_9 HB; obtain ⟨HO_9, HB⟩ := n_; (try clear hb)) | ((with_reducible refine gf 100 rfl ?_); refine gL (some 52) rfl rfl Tryd.func100 rfl #[.slice Ao15 x9_1.length co15, .int .i64 (wrap64 ((x9_1.length : Int) + t512)), .int .i64 x10_1] rfl ?_; (with_reducible refine (incunableref06_paint.calls k1 _ _ x9_1 (wrap64 ((x9_1.length : Int) + t512)) x10_1 t515 _ ?side1 ?side2 A14.out).mono ?_); (case side1 => exact cU (Kd.R_reads' HO_9.out).2.2); (case side2 => exact (Kd.R_reads' HO_9.out).2.1); rintro e w17 ⟨v516, rfl, ho0, hb⟩; refine ⟨_, rfl, ?_⟩; have n_ := aC (Kd.R_elder' (rU HO_9.out) (Kd.R_base ho0) hb) (aC (Kd.R_lower (Kd.R_new' ho0 (Kd.R_lt (rU HO_9.out))) bz) (aE (bs hb))); clear HO_9 HB; obtain ⟨HO_9, HO517, HB⟩ := n_; (try clear hb); (try clear ho0)))
        go_roundg k1
        case measure => have := HK1.out; omega
        case rel => exact ⟨(t513), (t515), (wrap64 (1 - x10_1)), (wrap64 (x11_1 + 1)), rq, rq, rq, H', ⟨by have := HK1.out; omega⟩, ⟨rU (Kd.R_mono HO517.out (fun _ hk => trivial))⟩, ⟨bl⟩⟩
     ·rw [if_neg c7] at H
      have c7b0 := beq_eq_false_iff_ne.mpr c7
      have c7b1 := bne_iff_ne.mpr c7
      by_cases c18 : t512 > (wrap64 (a2 - (x9_1.length : Int)))
      ·rw [if_pos c18] at H
       have c18b0 := decide_eq_true c18
       clear c18
       simp only [Option.some.injEq, Prod.mk.injEq] at H
       obtain ⟨rfl, rfl, rfl⟩ := H
       obtain ⟨Ao19, co19, eo19⟩ := Kd.R_slice HO_9.out
       subst eo19
       go_wp2_with (first | ((with_reducible refine gf 101 rfl ?_); refine gL (some 25) rfl rfl Tryd.func101 rfl #[.slice A0 l0.length c0, .int .i64 x1_1, .int .i64 x10_1] rfl ?_; (with_reducible refine (incunableref06_run.calls k1 _ _ l0 x1_1 x10_1 t512 t513 t514 _ ?side1 ?side2 A5.out).mono ?_); (case side1 => exact cU (Kd.C_below HR0.out HB.out)); (case side2 => exact HC0.out); rintro e w20 ⟨rfl, hb⟩; refine ⟨_, rfl, ?_⟩; have n_ := aC (Kd.R_below (rU HO_9.out) hb) (aE (bs hb)); clear HO_9 HB; obtain ⟨HO_9, HB⟩ := n_; (try clear hb)))
       go_ret3
       exact ⟨_, re, by first | exact Kd.R_nil _ _ _ _ _ | exact Kd.N_nil _ _ _ _ _ | exact Kd.V_nil _ _ _ _ _ | exact Kd.Q_nil _ _ _ _ _ | exact Kd.S_nil _ _ _ _ _, bl⟩
      ·rw [if_neg c18] at H
       have c18b0 := decide_eq_false c18
       clear c18
       replace H := Option.bind_eq_some_iff.mp H
       obtain ⟨t518, A210, H⟩ := H
       replace H : (incunableref06_oneRow.l0 k1 l0 t513 a2 t518 (wrap64 (1 - x10_1)) (wrap64 (x11_1 + 1))) = some (r1, r2, r3) := H
       have A21 := Aside0.mk A210
       clear A210
       have H' := Aside0.mk H
       clear H
       obtain ⟨Ao22, co22, eo22⟩ := Kd.R_slice HO_9.out
       subst eo22
       go_wp2_with (first | ((with_reducible refine gf 101 rfl ?_); refine gL (some 25) rfl rfl Tryd.func101 rfl #[.slice A0 l0.length c0, .int .i64 x1_1, .int .i64 x10_1] rfl ?_; (with_reducible refine (incunableref06_run.calls k1 _ _ l0 x1_1 x10_1 t512 t513 t514 _ ?side1 ?side2 A5.out).mono ?_); (case side1 => exact cU (Kd.C_below HR0.out HB.out)); (case side2 => exact HC0.out); rintro e w23 ⟨rfl, hb⟩; refine ⟨_, rfl, ?_⟩; have n_ := aC (Kd.R_below (rU HO_9.out) hb) (aE (bs hb)); clear HO_9 HB; obtain ⟨HO_9, HB⟩ := n_; (try clear hb)) | ((with_reducible refine gf 100 rfl ?_); refine gL (some 52) rfl rfl Tryd.func100 rfl #[.slice Ao22 x9_1.length co22, .int .i64 (wrap64 ((x9_1.length : Int) + t512)), .int .i64 x10_1] rfl ?_; (with_reducible refine (incunableref06_paint.calls k1 _ _ x9_1 (wrap64 ((x9_1.length : Int) + t512)) x10_1 t518 _ ?side1 ?side2 A21.out).mono ?_); (case side1 => exact cU (Kd.R_reads' HO_9.out).2.2); (case side2 => exact (Kd.R_reads' HO_9.out).2.1); rintro e w24 ⟨v519, rfl, ho0, hb⟩; refine ⟨_, rfl, ?_⟩; have n_ := aC (Kd.R_elder' (rU HO_9.out) (Kd.R_base ho0) hb) (aC (Kd.R_lower (Kd.R_new' ho0 (Kd.R_lt (rU HO_9.out))) bz) (aE (bs hb))); clear HO_9 HB; obtain ⟨HO_9, HO520, HB⟩ := n_; (try clear hb); (try clear ho0)))
       go_roundg k1
       case measure => have := HK1.out; omega
       case rel => exact ⟨(t513), (t518), (wrap64 (1 - x10_1)), (wrap64 (x11_1 + 1)), rq, rq, rq, H', ⟨by have := HK1.out; omega⟩, ⟨rU (Kd.R_mono HO520.out (fun _ hk => trivial))⟩, ⟨bl⟩⟩
    ·rw [if_neg c6] at H
     have c6b0 := beq_eq_false_iff_ne.mpr c6
     have c6b1 := bne_iff_ne.mpr c6
     simp only [Option.some.injEq, Prod.mk.injEq] at H
     obtain ⟨rfl, rfl, rfl⟩ := H
     obtain ⟨Ao25, co25, eo25⟩ := Kd.R_slice HO_9.out
     subst eo25
     go_wp2_with (first | ((with_reducible refine gf 101 rfl ?_); refine gL (some 25) rfl rfl Tryd.func101 rfl #[.slice A0 l0.length c0, .int .i64 x1_1, .int .i64 x10_1] rfl ?_; (with_reducible refine (incunableref06_run.calls k1 _ _ l0 x1_1 x10_1 t512 t513 t514 _ ?side1 ?side2 A5.out).mono ?_); (case side1 => exact cU (Kd.C_below HR0.out HB.out)); (case side2 => exact HC0.out); rintro e w26 ⟨rfl, hb⟩; refine ⟨_, rfl, ?_⟩; have n_ := aC (Kd.R_below (rU HO_9.out) hb) (aE (bs hb)); clear HO_9 HB; obtain ⟨HO_9, HB⟩ := n_; (try clear hb)))
     go_ret3
     exact ⟨_, re, by first | exact Kd.R_nil _ _ _ _ _ | exact Kd.N_nil _ _ _ _ _ | exact Kd.V_nil _ _ _ _ _ | exact Kd.Q_nil _ _ _ _ _ | exact Kd.S_nil _ _ _ _ _, bl⟩
   ·rw [if_neg c4] at H
    have c4b0 := decide_eq_false c4
    clear c4
    simp only [Option.some.injEq, Prod.mk.injEq] at H
    obtain ⟨rfl, rfl, rfl⟩ := H
    obtain ⟨Ao27, co27, eo27⟩ := Kd.R_slice HO_9.out
    subst eo27
    go_wp2
    go_ret3
    exact ⟨_, re, rU HO_9.out, bl⟩
end Go.Proofs.YtknclbodinfbeaaDoor.PRunsGetTwo
