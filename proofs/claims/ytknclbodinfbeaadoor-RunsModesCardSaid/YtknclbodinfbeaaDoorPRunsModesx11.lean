-- Written by a program of this session (wip/tools/myprint.py) over the kit's print. Not trusted: Lean checks it.
import Derived.Test.YtknclbodinfbeaaDoorPRunsModesx0
import Derived.Test.YtknclbodinfbeaaDoorPRunsModesx5
import Derived.Test.YtknclbodinfbeaaDoorPRunsModesx6
import Derived.Test.YtknclbodinfbeaaDoorPRunsModesx7
import Derived.Test.YtknclbodinfbeaaDoorPRunsModesx10
namespace Go.Proofs.YtknclbodinfbeaaDoor.PRunsModes
open Go.RowKit Go.Proofs.YtknclbodinfbeaaDoorW.PrintWords Go.Proofs.YtknclbodinfbeaaDoorW.PrintLast Go.Proofs.YtknclbodinfbeaaDoorW.PrintMore
attribute [local go_sem] max2_int min2_int max_two min_two max_three min_three max_four min_four   -- for this text's walks alone
set_option linter.unusedVariables false
set_option linter.unusedSimpArgs false

/-! ### incunableref06_Choice: function 44 -/
def incunableref06_Choice.j0 : Nat → List Int → Int → Int → Int → Int → Bool → Option (ByteArray × List Int × Int × Int)
 | 0, _, _, _, _, _, _ => none
 | k + 1, x1, x2, x3, x11, x12, x43 => if x43 = true then ((incunableref06_name.f x12).bind fun t361 => ((incunableref06_upright.f x12).bind fun t362 => ((incunableref06_bitsOf.f k t362).bind fun t363 => (some (t361, t363, x11, wrap64 (1 - x3)))))) else ((incunableref06_first.f k x1 x11 x3).bind fun t366 => ((incunableref06_bitsOf.f k (⟨#[48, 48, 49]⟩ : ByteArray)).bind fun t367 => ((incunableref06_RunBits.f k (wrap64 (x11 - (mx x2 0))) x3).bind fun t370 => (if t367.length + t370.length < 140737488355328 then ((some (t367 ++ t370 : List Int)).bind fun y373 => ((incunableref06_RunBits.f k (wrap64 (t366 - x11)) (wrap64 (1 - x3))).bind fun t376 => (if y373.length + t376.length < 140737488355328 then (some ((⟨#[102, 108, 97, 116]⟩ : ByteArray), (y373 ++ t376), t366, x3)) else (none)))) else (none)))))
def incunableref06_Choice.f (k : Nat) (l0 : List Int) (l1 : List Int) (a2 : Int) (a3 : Int) : Option (ByteArray × List Int × Int × Int) := (incunableref06_change.f k l0 a2 a3).bind fun t355 => ((incunableref06_first.f k l0 t355 a3).bind fun t356 => ((incunableref06_first.f k l1 a2 (wrap64 (1 - a3))).bind fun t357 => (if t356 < t357 then ((incunableref06_bitsOf.f k (⟨#[48, 48, 48, 49]⟩ : ByteArray)).bind fun t358 => (some ((⟨#[112, 97, 115, 115]⟩ : ByteArray), t358, t356, a3))) else (if (wrap64 (t357 - t355)) ≥ (-3) then (incunableref06_Choice.j0 k l1 a2 a3 t357 (wrap64 (t357 - t355)) (decide ((wrap64 (t357 - t355)) ≤ 3))) else (incunableref06_Choice.j0 k l1 a2 a3 t357 (wrap64 (t357 - t355)) false)))))
theorem incunableref06_Choice.mono_l : ∀ k, (∀ y0 y1 y2 y3 y4 y5, LeO (incunableref06_Choice.j0 k y0 y1 y2 y3 y4 y5) (incunableref06_Choice.j0 (k + 1) y0 y1 y2 y3 y4 y5))
 | 0 => fun _ _ _ _ _ _ r h => by simp [incunableref06_Choice.j0] at h
 | k + 1 => by
  have ih0 := incunableref06_Choice.mono_l k
  ·intro y0 y1 y2 y3 y4 y5
   unfold incunableref06_Choice.j0
   repeat' first
   | (with_reducible exact ih0 _ _ _ _ _ _)
   | (with_reducible exact incunableref06_RunBits.mono _ _ _)
   | (with_reducible exact incunableref06_bitsOf.mono _ _)
   | (with_reducible exact incunableref06_change.mono _ _ _ _)
   | (with_reducible exact incunableref06_first.mono _ _ _ _)
   | (with_reducible first | exact LeO.refl _ | exact LeO.none _ | refine LeO.ite ?_ ?_ | refine LeO.bind ?_ (fun _ => ?_))
   | exact ih0 _ _ _ _ _ _
   | exact incunableref06_RunBits.mono _ _ _
   | exact incunableref06_bitsOf.mono _ _
   | exact incunableref06_change.mono _ _ _ _
   | exact incunableref06_first.mono _ _ _ _
   | exact LeO.none _ | refine LeO.ite ?_ ?_ | refine LeO.bind ?_ (fun _ => ?_)
theorem incunableref06_Choice.mono : ∀ a0 a1 a2 a3 k, LeO (incunableref06_Choice.f k a0 a1 a2 a3) (incunableref06_Choice.f (k + 1) a0 a1 a2 a3) := by
 intro a0 a1 a2 a3 k
 have ih0 := incunableref06_Choice.mono_l k
 unfold incunableref06_Choice.f
 repeat' first
   | (with_reducible exact ih0 _ _ _ _ _ _)
   | (with_reducible exact incunableref06_RunBits.mono _ _ _)
   | (with_reducible exact incunableref06_bitsOf.mono _ _)
   | (with_reducible exact incunableref06_change.mono _ _ _ _)
   | (with_reducible exact incunableref06_first.mono _ _ _ _)
   | (with_reducible first | exact LeO.refl _ | exact LeO.none _ | refine LeO.ite ?_ ?_ | refine LeO.bind ?_ (fun _ => ?_))
   | exact ih0 _ _ _ _ _ _
   | exact incunableref06_RunBits.mono _ _ _
   | exact incunableref06_bitsOf.mono _ _
   | exact incunableref06_change.mono _ _ _ _
   | exact incunableref06_first.mono _ _ _ _
   | exact LeO.none _ | refine LeO.ite ?_ ?_ | refine LeO.bind ?_ (fun _ => ?_)
set_option maxHeartbeats 8000000 in
set_option maxRecDepth 100000 in
theorem incunableref06_Choice.calls (k : Nat) (A0 : Option Addr) (c0 : Nat) (l0 : List Int) (A1 : Option Addr) (c1 : Nat) (l1 : List Int) (a2 : Int) (a3 : Int) (r1 : ByteArray) (r2 : List Int) (r3 : Int) (r4 : Int) (w : World) (hr0 : Kd.C (Kd.int .u8) w A0 l0.length l0) (hc0 : l0.length ≤ c0) (hr1 : Kd.C (Kd.int .u8) w A1 l1.length l1) (hc1 : l1.length ≤ c1) (h : incunableref06_Choice.f k l0 l1 a2 a3 = some (r1, r2, r3, r4)) :
  Calls Tryd.prog 44 #[.slice A0 l0.length c0, .slice A1 l1.length c1, .int .i64 a2, .int .i64 a3] w fun e w' => ∃ v1_ : Value, e = .returned (.agg #[.string r1, v1_, .int .i64 r3, .int .i64 r4]) ∧ Kd.R (Kd.int .u8) 5 w' w.heap.size (fun _ => True) v1_ r2 ∧ Below w.heap.size w w' := by
 have hu37 := Tryd.underlying37
 have HR0 := Aside0.mk hr0
 have HC0 := Aside0.mk hc0
 clear hr0 hc0
 have HR1 := Aside0.mk hr1
 have HC1 := Aside0.mk hc1
 clear hr1 hc1
 have HB := Aside0.mk (Below.refl w.heap.size w)
 have H : ((incunableref06_change.f k l0 a2 a3).bind fun t355 => ((incunableref06_first.f k l0 t355 a3).bind fun t356 => ((incunableref06_first.f k l1 a2 (wrap64 (1 - a3))).bind fun t357 => (if t356 < t357 then ((incunableref06_bitsOf.f k (⟨#[48, 48, 48, 49]⟩ : ByteArray)).bind fun t358 => (some ((⟨#[112, 97, 115, 115]⟩ : ByteArray), t358, t356, a3))) else (if (wrap64 (t357 - t355)) ≥ (-3) then (incunableref06_Choice.j0 k l1 a2 a3 t357 (wrap64 (t357 - t355)) (decide ((wrap64 (t357 - t355)) ≤ 3))) else (incunableref06_Choice.j0 k l1 a2 a3 t357 (wrap64 (t357 - t355)) false)))))) = some (r1, r2, r3, r4) := h
 clear h
 replace H := Option.bind_eq_some_iff.mp H
 obtain ⟨t355, A50, H⟩ := H
 replace H : ((incunableref06_first.f k l0 t355 a3).bind fun t356 => ((incunableref06_first.f k l1 a2 (wrap64 (1 - a3))).bind fun t357 => (if t356 < t357 then ((incunableref06_bitsOf.f k (⟨#[48, 48, 48, 49]⟩ : ByteArray)).bind fun t358 => (some ((⟨#[112, 97, 115, 115]⟩ : ByteArray), t358, t356, a3))) else (if (wrap64 (t357 - t355)) ≥ (-3) then (incunableref06_Choice.j0 k l1 a2 a3 t357 (wrap64 (t357 - t355)) (decide ((wrap64 (t357 - t355)) ≤ 3))) else (incunableref06_Choice.j0 k l1 a2 a3 t357 (wrap64 (t357 - t355)) false))))) = some (r1, r2, r3, r4) := H
 have A5 := Aside0.mk A50
 clear A50
 replace H := Option.bind_eq_some_iff.mp H
 obtain ⟨t356, A60, H⟩ := H
 replace H : ((incunableref06_first.f k l1 a2 (wrap64 (1 - a3))).bind fun t357 => (if t356 < t357 then ((incunableref06_bitsOf.f k (⟨#[48, 48, 48, 49]⟩ : ByteArray)).bind fun t358 => (some ((⟨#[112, 97, 115, 115]⟩ : ByteArray), t358, t356, a3))) else (if (wrap64 (t357 - t355)) ≥ (-3) then (incunableref06_Choice.j0 k l1 a2 a3 t357 (wrap64 (t357 - t355)) (decide ((wrap64 (t357 - t355)) ≤ 3))) else (incunableref06_Choice.j0 k l1 a2 a3 t357 (wrap64 (t357 - t355)) false)))) = some (r1, r2, r3, r4) := H
 have A6 := Aside0.mk A60
 clear A60
 replace H := Option.bind_eq_some_iff.mp H
 obtain ⟨t357, A70, H⟩ := H
 replace H : (if t356 < t357 then ((incunableref06_bitsOf.f k (⟨#[48, 48, 48, 49]⟩ : ByteArray)).bind fun t358 => (some ((⟨#[112, 97, 115, 115]⟩ : ByteArray), t358, t356, a3))) else (if (wrap64 (t357 - t355)) ≥ (-3) then (incunableref06_Choice.j0 k l1 a2 a3 t357 (wrap64 (t357 - t355)) (decide ((wrap64 (t357 - t355)) ≤ 3))) else (incunableref06_Choice.j0 k l1 a2 a3 t357 (wrap64 (t357 - t355)) false))) = some (r1, r2, r3, r4) := H
 have A7 := Aside0.mk A70
 clear A70
 by_cases c8 : t356 < t357
 ·rw [if_pos c8] at H
  have c8b0 := decide_eq_true c8
  clear c8
  replace H := Option.bind_eq_some_iff.mp H
  obtain ⟨t358, A90, H⟩ := H
  replace H : (some ((⟨#[112, 97, 115, 115]⟩ : ByteArray), t358, t356, a3)) = some (r1, r2, r3, r4) := H
  have A9 := Aside0.mk A90
  clear A90
  simp only [Option.some.injEq, Prod.mk.injEq] at H
  obtain ⟨rfl, rfl, rfl, rfl⟩ := H
  go_enter Tryd.func44, Tryd.ntmps44
  go_wp2_with (first | ((with_reducible refine gd 8 rfl ?_); refine bx 8 #[.string (⟨#[]⟩ : ByteArray), .slice none 0 0, .int .i64 0, .int .i64 0] 37 rfl rfl ?_; intro gb354 hg w10 hbox hb; have n_ := aC (bs hb) (aC hbox (aC (gz hg) (aE (gz hg)))); clear HB; obtain ⟨HB, BK354, GW354, GE354⟩ := n_; clear hb hbox hg) | ((with_reducible refine gf 69 rfl ?_); refine gL (some 18) rfl rfl Tryd.func69 rfl #[.slice A0 l0.length c0, .int .i64 a2, .int .i64 a3] rfl ?_; (with_reducible refine (incunableref06_change.calls k _ _ l0 a2 a3 t355 _ ?side1 ?side2 A5.out).mono ?_); (case side1 => exact cU (Kd.C_below HR0.out HB.out)); (case side2 => exact HC0.out); rintro e w' ⟨rfl, ⟨nd, rfl⟩⟩; refine ⟨_, rfl, ?_⟩; (try (rw [drewN_self w10]; generalize hq_ : World.drewN w10 _ = w10; have n0_ : Aside0 (w10.heap[gb354]? = some (.cells #[.string (⟨#[]⟩ : ByteArray), .slice none 0 0, .int .i64 0, .int .i64 0] 37 (0, 0))) := ⟨by rw [← hq_]; exact (bU BK354.out)⟩; have n1_ : Aside0 (Below w.heap.size w w10) := ⟨by rw [← hq_]; exact bl⟩; clear BK354 HB hq_; have BK354 := n0_; have HB := n1_; clear n0_ n1_))) | ((with_reducible refine gf 70 rfl ?_); refine gL (some 22) rfl rfl Tryd.func70 rfl #[.slice A0 l0.length c0, .int .i64 t355, .int .i64 a3] rfl ?_; (with_reducible refine (incunableref06_first.calls k _ _ l0 t355 a3 t356 _ ?side1 ?side2 A6.out).mono ?_); (case side1 => exact cU (Kd.C_below HR0.out HB.out)); (case side2 => exact HC0.out); rintro e w' ⟨rfl, ⟨nd, rfl⟩⟩; refine ⟨_, rfl, ?_⟩; (try (rw [drewN_self w10]; generalize hq_ : World.drewN w10 _ = w10; have n0_ : Aside0 (w10.heap[gb354]? = some (.cells #[.string (⟨#[]⟩ : ByteArray), .slice none 0 0, .int .i64 0, .int .i64 0] 37 (0, 0))) := ⟨by rw [← hq_]; exact (bU BK354.out)⟩; have n1_ : Aside0 (Below w.heap.size w w10) := ⟨by rw [← hq_]; exact bl⟩; clear BK354 HB hq_; have BK354 := n0_; have HB := n1_; clear n0_ n1_))) | ((with_reducible refine gf 70 rfl ?_); refine gL (some 27) rfl rfl Tryd.func70 rfl #[.slice A1 l1.length c1, .int .i64 a2, .int .i64 (wrap64 (1 - a3))] rfl ?_; (with_reducible refine (incunableref06_first.calls k _ _ l1 a2 (wrap64 (1 - a3)) t357 _ ?side1 ?side2 A7.out).mono ?_); (case side1 => exact cU (Kd.C_below HR1.out HB.out)); (case side2 => exact HC1.out); rintro e w' ⟨rfl, ⟨nd, rfl⟩⟩; refine ⟨_, rfl, ?_⟩; (try (rw [drewN_self w10]; generalize hq_ : World.drewN w10 _ = w10; have n0_ : Aside0 (w10.heap[gb354]? = some (.cells #[.string (⟨#[]⟩ : ByteArray), .slice none 0 0, .int .i64 0, .int .i64 0] 37 (0, 0))) := ⟨by rw [← hq_]; exact (bU BK354.out)⟩; have n1_ : Aside0 (Below w.heap.size w w10) := ⟨by rw [← hq_]; exact bl⟩; clear BK354 HB hq_; have BK354 := n0_; have HB := n1_; clear n0_ n1_))) | ((with_reducible refine gf 71 rfl ?_); refine gL (some 31) rfl rfl Tryd.func71 rfl #[.string (⟨#[48, 48, 48, 49]⟩ : ByteArray)] rfl ?_; (with_reducible refine (incunableref06_bitsOf.calls k (⟨#[48, 48, 48, 49]⟩ : ByteArray) t358 _ A9.out).mono ?_); rintro e w11 ⟨v359, rfl, ho0, hb⟩; refine ⟨_, rfl, ?_⟩; have n_ := aC (Kd.R_lower ho0 bz) (aC (blk_below (bU BK354.out) hb) (aE (bs hb))); clear BK354 HB; obtain ⟨HO360, BK354, HB⟩ := n_; (try clear hb); (try clear ho0); obtain ⟨Ao12, co12, eo12⟩ := Kd.R_slice HO360.out; subst eo12; obtain ⟨hcz13_0, hcz13_1, hcz13_2, hcz13_3, hfz13_0, hfz13_1, hfz13_2, hfz13_3⟩ := cz4f BK354.out))
  refine bodyPost_ret (results_cell_row rfl _ _ gb354 37 #[.string (⟨#[112, 97, 115, 115]⟩ : ByteArray), .slice Ao12 t358.length co12, .int .i64 t356, .int .i64 a3] (0, 0) _ rfl (by (with_reducible repeat (first | refine blk_drewN ?_ _ | refine blk_drew ?_ | refine blk_alloc ?_ _)); refine blk_put (cs := #[.string (⟨#[112, 97, 115, 115]⟩ : ByteArray), .slice Ao12 t358.length co12, .int .i64 t356, .int .i64 0]) ?_ 3 _ rfl; (with_reducible repeat (first | refine blk_drewN ?_ _ | refine blk_drew ?_ | refine blk_alloc ?_ _)); refine blk_put (cs := #[.string (⟨#[112, 97, 115, 115]⟩ : ByteArray), .slice Ao12 t358.length co12, .int .i64 0, .int .i64 0]) ?_ 2 _ rfl; (with_reducible repeat (first | refine blk_drewN ?_ _ | refine blk_drew ?_ | refine blk_alloc ?_ _)); refine blk_put (cs := #[.string (⟨#[112, 97, 115, 115]⟩ : ByteArray), .slice none 0 0, .int .i64 0, .int .i64 0]) ?_ 1 _ rfl; (with_reducible repeat (first | refine blk_drewN ?_ _ | refine blk_drew ?_ | refine blk_alloc ?_ _)); refine blk_put (cs := #[.string (⟨#[]⟩ : ByteArray), .slice none 0 0, .int .i64 0, .int .i64 0]) ?_ 0 _ rfl; (with_reducible repeat (first | refine blk_drewN ?_ _ | refine blk_drew ?_ | refine blk_alloc ?_ _)); exact BK354.out) Tryd.underlying37 rfl (by kernel_rfl)) rfl ?_
  exact ⟨_, re, rU (Kd.R_mono (Kd.R_far (p := ⟨gb354, 3, none⟩) (Kd.R_far (p := ⟨gb354, 2, none⟩) (Kd.R_far (p := ⟨gb354, 1, none⟩) (Kd.R_far (p := ⟨gb354, 0, none⟩) (Kd.R_types HO360.out BK354.out (by decide)) (fun _ hk => hk.2) (.string (⟨#[112, 97, 115, 115]⟩ : ByteArray))) (fun _ hk => hk.2) (.slice Ao12 t358.length co12)) (fun _ hk => hk.2) (.int .i64 t356)) (fun _ hk => hk.2) (.int .i64 a3)) (fun _ hk => trivial)), bl⟩
 ·rw [if_neg c8] at H
  have c8b0 := decide_eq_false c8
  clear c8
  have HC14 := Aside0.mk H
  clear H
  go_enter Tryd.func44, Tryd.ntmps44
  go_upto_region 7 with (first | ((with_reducible refine gd 8 rfl ?_); refine bx 8 #[.string (⟨#[]⟩ : ByteArray), .slice none 0 0, .int .i64 0, .int .i64 0] 37 rfl rfl ?_; intro gb354 hg w15 hbox hb; have n_ := aC (bs hb) (aC hbox (aC (gz hg) (aE (gz hg)))); clear HB; obtain ⟨HB, BK354, GW354, GE354⟩ := n_; clear hb hbox hg) | ((with_reducible refine gf 69 rfl ?_); refine gL (some 18) rfl rfl Tryd.func69 rfl #[.slice A0 l0.length c0, .int .i64 a2, .int .i64 a3] rfl ?_; (with_reducible refine (incunableref06_change.calls k _ _ l0 a2 a3 t355 _ ?side1 ?side2 A5.out).mono ?_); (case side1 => exact cU (Kd.C_below HR0.out HB.out)); (case side2 => exact HC0.out); rintro e w' ⟨rfl, ⟨nd, rfl⟩⟩; refine ⟨_, rfl, ?_⟩) | ((with_reducible refine gf 70 rfl ?_); refine gL (some 22) rfl rfl Tryd.func70 rfl #[.slice A0 l0.length c0, .int .i64 t355, .int .i64 a3] rfl ?_; (with_reducible refine (incunableref06_first.calls k _ _ l0 t355 a3 t356 _ ?side1 ?side2 A6.out).mono ?_); (case side1 => exact cU (Kd.C_below HR0.out bl)); (case side2 => exact HC0.out); rintro e w' ⟨rfl, ⟨nd, rfl⟩⟩; refine ⟨_, rfl, ?_⟩) | ((with_reducible refine gf 70 rfl ?_); refine gL (some 27) rfl rfl Tryd.func70 rfl #[.slice A1 l1.length c1, .int .i64 a2, .int .i64 (wrap64 (1 - a3))] rfl ?_; (with_reducible refine (incunableref06_first.calls k _ _ l1 a2 (wrap64 (1 - a3)) t357 _ ?side1 ?side2 A7.out).mono ?_); (case side1 => exact cU (Kd.C_below HR1.out bl)); (case side2 => exact HC1.out); rintro e w' ⟨rfl, ⟨nd, rfl⟩⟩; refine ⟨_, rfl, ?_⟩))
  (try simp only [Act.put, List.setIfInBounds_toArray, List.set_cons_zero, List.set_cons_succ])
  go_cut [43] (fun v43 wc => ∃ (kq : Nat) (x43_13 : Bool), v43 = .bool x43_13 ∧ Aside0 (incunableref06_Choice.j0 kq l1 a2 a3 t357 (wrap64 (t357 - t355)) x43_13 = some (r1, r2, r3, r4)) ∧ Aside0 (kq ≤ k) ∧ Aside0 (wc.heap[gb354]? = some (.cells #[.string (⟨#[]⟩ : ByteArray), (.slice none 0 0), .int .i64 0, .int .i64 0] 37 (0, 0))) ∧ Aside0 (Below w.heap.size w wc))
  case first =>
   have H := HC14.out
   clear HC14
   by_cases c16 : (wrap64 (t357 - t355)) ≥ (-3)
   ·rw [if_pos c16] at H
    have c16b0 := decide_eq_true c16
    clear c16
    (first | rw [c16b0] | (simp only [i64_w, i32_w]; rw [c16b0]) | skip)
    have H' := Aside0.mk H
    clear H
    go_wp2
    go_meet
    case rel => exact ⟨_, (decide ((wrap64 (t357 - t355)) ≤ 3)), rq, H', ⟨by first | omega | exact Nat.le_refl _⟩, ⟨bU BK354.out⟩, ⟨bl⟩⟩
   ·rw [if_neg c16] at H
    have c16b0 := decide_eq_false c16
    clear c16
    (first | rw [c16b0] | (simp only [i64_w, i32_w]; rw [c16b0]) | skip)
    have H' := Aside0.mk H
    clear H
    go_wp2
    go_meet
    case rel => exact ⟨_, (false), rq, H', ⟨by first | omega | exact Nat.le_refl _⟩, ⟨bU BK354.out⟩, ⟨bl⟩⟩
  case rest =>
   clear HC14
   try clear c1
   obtain ⟨kq, x43_13, rfl, HA, HJ13, BK354, HB⟩ := hcut
   cases kq with
   | zero => exact absurd HA.out (by simp [incunableref06_Choice.j0])
   | succ kj13 =>
    have H := HA.out
    clear HA
    simp only [incunableref06_Choice.j0] at H
    by_cases c17 : x43_13 = true
    ·subst c17
     have H1 : ((incunableref06_name.f (wrap64 (t357 - t355))).bind fun t361 => ((incunableref06_upright.f (wrap64 (t357 - t355))).bind fun t362 => ((incunableref06_bitsOf.f kj13 t362).bind fun t363 => (some (t361, t363, t357, wrap64 (1 - a3)))))) = some (r1, r2, r3, r4) := by rw [if_pos rfl] at H; exact H
     clear H
     have H := H1
     clear H1
     replace H := Option.bind_eq_some_iff.mp H
     obtain ⟨t361, A180, H⟩ := H
     replace H : ((incunableref06_upright.f (wrap64 (t357 - t355))).bind fun t362 => ((incunableref06_bitsOf.f kj13 t362).bind fun t363 => (some (t361, t363, t357, wrap64 (1 - a3))))) = some (r1, r2, r3, r4) := H
     have A18 := Aside0.mk A180
     clear A180
     replace H := Option.bind_eq_some_iff.mp H
     obtain ⟨t362, A190, H⟩ := H
     replace H : ((incunableref06_bitsOf.f kj13 t362).bind fun t363 => (some (t361, t363, t357, wrap64 (1 - a3)))) = some (r1, r2, r3, r4) := H
     have A19 := Aside0.mk A190
     clear A190
     replace H := Option.bind_eq_some_iff.mp H
     obtain ⟨t363, A200, H⟩ := H
     replace H : (some (t361, t363, t357, wrap64 (1 - a3))) = some (r1, r2, r3, r4) := H
     have A20 := Aside0.mk A200
     clear A200
     simp only [Option.some.injEq, Prod.mk.injEq] at H
     obtain ⟨rfl, rfl, rfl, rfl⟩ := H
     go_wp2_with (first | ((with_reducible refine gf 72 rfl ?_); refine gL (some 45) rfl rfl Tryd.func72 rfl #[.int .i64 (wrap64 (t357 - t355))] rfl ?_; (with_reducible refine (incunableref06_name.calls (wrap64 (t357 - t355)) t361 _ A18.out).mono ?_); rintro e w' ⟨rfl, ⟨nd, rfl⟩⟩; refine ⟨_, rfl, ?_⟩; (try (rw [drewN_self wc]; generalize hq_ : World.drewN wc _ = wc; have n0_ : Aside0 (wc.heap[gb354]? = some (.cells #[.string (⟨#[]⟩ : ByteArray), .slice none 0 0, .int .i64 0, .int .i64 0] 37 (0, 0))) := ⟨by rw [← hq_]; exact (bU BK354.out)⟩; have n1_ : Aside0 (Below w.heap.size w wc) := ⟨by rw [← hq_]; exact bl⟩; clear BK354 HB hq_; have BK354 := n0_; have HB := n1_; clear n0_ n1_))) | ((with_reducible refine gf 73 rfl ?_); refine gL (some 47) rfl rfl Tryd.func73 rfl #[.int .i64 (wrap64 (t357 - t355))] rfl ?_; (with_reducible refine (incunableref06_upright.calls (wrap64 (t357 - t355)) t362 _ A19.out).mono ?_); rintro e w' ⟨rfl, ⟨nd, rfl⟩⟩; refine ⟨_, rfl, ?_⟩; (try (rw [drewN_self wc]; generalize hq_ : World.drewN wc _ = wc; have n0_ : Aside0 (wc.heap[gb354]? = some (.cells #[.string (⟨#[]⟩ : ByteArray), .slice none 0 0, .int .i64 0, .int .i64 0] 37 (0, 0))) := ⟨by rw [← hq_]; exact (bU BK354.out)⟩; have n1_ : Aside0 (Below w.heap.size w wc) := ⟨by rw [← hq_]; exact bl⟩; clear BK354 HB hq_; have BK354 := n0_; have HB := n1_; clear n0_ n1_))) | ((with_reducible refine gf 71 rfl ?_); refine gL (some 48) rfl rfl Tryd.func71 rfl #[.string t362] rfl ?_; (with_reducible refine (incunableref06_bitsOf.calls kj13 t362 t363 _ A20.out).mono ?_); rintro e w21 ⟨v364, rfl, ho0, hb⟩; refine ⟨_, rfl, ?_⟩; have n_ := aC (Kd.R_lower ho0 bz) (aC (blk_below (bU BK354.out) hb) (aE (bs hb))); clear BK354 HB; obtain ⟨HO365, BK354, HB⟩ := n_; (try clear hb); (try clear ho0); obtain ⟨Ao22, co22, eo22⟩ := Kd.R_slice HO365.out; subst eo22; obtain ⟨hcz23_0, hcz23_1, hcz23_2, hcz23_3, hfz23_0, hfz23_1, hfz23_2, hfz23_3⟩ := cz4f BK354.out))
     refine bodyPost_ret (results_cell_row rfl _ _ gb354 37 #[.string t361, .slice Ao22 t363.length co22, .int .i64 t357, .int .i64 (wrap64 (1 - a3))] (0, 0) _ rfl (by (with_reducible repeat (first | refine blk_drewN ?_ _ | refine blk_drew ?_ | refine blk_alloc ?_ _)); refine blk_put (cs := #[.string t361, .slice Ao22 t363.length co22, .int .i64 t357, .int .i64 0]) ?_ 3 _ rfl; (with_reducible repeat (first | refine blk_drewN ?_ _ | refine blk_drew ?_ | refine blk_alloc ?_ _)); refine blk_put (cs := #[.string t361, .slice Ao22 t363.length co22, .int .i64 0, .int .i64 0]) ?_ 2 _ rfl; (with_reducible repeat (first | refine blk_drewN ?_ _ | refine blk_drew ?_ | refine blk_alloc ?_ _)); refine blk_put (cs := #[.string t361, .slice none 0 0, .int .i64 0, .int .i64 0]) ?_ 1 _ rfl; (with_reducible repeat (first | refine blk_drewN ?_ _ | refine blk_drew ?_ | refine blk_alloc ?_ _)); refine blk_put (cs := #[.string (⟨#[]⟩ : ByteArray), .slice none 0 0, .int .i64 0, .int .i64 0]) ?_ 0 _ rfl; (with_reducible repeat (first | refine blk_drewN ?_ _ | refine blk_drew ?_ | refine blk_alloc ?_ _)); exact BK354.out) Tryd.underlying37 rfl (by kernel_rfl)) rfl ?_
     exact ⟨_, re, rU (Kd.R_mono (Kd.R_far (p := ⟨gb354, 3, none⟩) (Kd.R_far (p := ⟨gb354, 2, none⟩) (Kd.R_far (p := ⟨gb354, 1, none⟩) (Kd.R_far (p := ⟨gb354, 0, none⟩) (Kd.R_types HO365.out BK354.out (by decide)) (fun _ hk => hk.2) (.string t361)) (fun _ hk => hk.2) (.slice Ao22 t363.length co22)) (fun _ hk => hk.2) (.int .i64 t357)) (fun _ hk => hk.2) (.int .i64 (wrap64 (1 - a3)))) (fun _ hk => trivial)), bl⟩
    ·replace c17 := Bool.eq_false_iff.mpr c17
     subst c17
     have H1 : ((incunableref06_first.f kj13 l1 t357 a3).bind fun t366 => ((incunableref06_bitsOf.f kj13 (⟨#[48, 48, 49]⟩ : ByteArray)).bind fun t367 => ((incunableref06_RunBits.f kj13 (wrap64 (t357 - (mx a2 0))) a3).bind fun t370 => (if t367.length + t370.length < 140737488355328 then ((some (t367 ++ t370 : List Int)).bind fun y373 => ((incunableref06_RunBits.f kj13 (wrap64 (t366 - t357)) (wrap64 (1 - a3))).bind fun t376 => (if y373.length + t376.length < 140737488355328 then (some ((⟨#[102, 108, 97, 116]⟩ : ByteArray), (y373 ++ t376), t366, a3)) else (none)))) else (none))))) = some (r1, r2, r3, r4) := by rw [if_neg (show ¬ (false = true) by decide)] at H; exact H
     clear H
     have H := H1
     clear H1
     replace H := Option.bind_eq_some_iff.mp H
     obtain ⟨t366, A240, H⟩ := H
     replace H : ((incunableref06_bitsOf.f kj13 (⟨#[48, 48, 49]⟩ : ByteArray)).bind fun t367 => ((incunableref06_RunBits.f kj13 (wrap64 (t357 - (mx a2 0))) a3).bind fun t370 => (if t367.length + t370.length < 140737488355328 then ((some (t367 ++ t370 : List Int)).bind fun y373 => ((incunableref06_RunBits.f kj13 (wrap64 (t366 - t357)) (wrap64 (1 - a3))).bind fun t376 => (if y373.length + t376.length < 140737488355328 then (some ((⟨#[102, 108, 97, 116]⟩ : ByteArray), (y373 ++ t376), t366, a3)) else (none)))) else (none)))) = some (r1, r2, r3, r4) := H
     have A24 := Aside0.mk A240
     clear A240
     replace H := Option.bind_eq_some_iff.mp H
     obtain ⟨t367, A250, H⟩ := H
     replace H : ((incunableref06_RunBits.f kj13 (wrap64 (t357 - (mx a2 0))) a3).bind fun t370 => (if t367.length + t370.length < 140737488355328 then ((some (t367 ++ t370 : List Int)).bind fun y373 => ((incunableref06_RunBits.f kj13 (wrap64 (t366 - t357)) (wrap64 (1 - a3))).bind fun t376 => (if y373.length + t376.length < 140737488355328 then (some ((⟨#[102, 108, 97, 116]⟩ : ByteArray), (y373 ++ t376), t366, a3)) else (none)))) else (none))) = some (r1, r2, r3, r4) := H
     have A25 := Aside0.mk A250
     clear A250
     obtain ⟨ji26, hji26⟩ : ∃ j_ : Int, (mx a2 0) = j_ := ⟨_, rfl⟩
     replace H : ((incunableref06_RunBits.f kj13 (wrap64 (t357 - (ji26))) a3).bind fun t370 => (if t367.length + t370.length < 140737488355328 then ((some (t367 ++ t370 : List Int)).bind fun y373 => ((incunableref06_RunBits.f kj13 (wrap64 (t366 - t357)) (wrap64 (1 - a3))).bind fun t376 => (if y373.length + t376.length < 140737488355328 then (some ((⟨#[102, 108, 97, 116]⟩ : ByteArray), (y373 ++ t376), t366, a3)) else (none)))) else (none))) = some (r1, r2, r3, r4) := by first | (rw [hji26] at H; exact H) | (simp only [hji26] at H ⊢; exact H)
     (try rw [hji26] at A24)
     (try rw [hji26] at A25)
     have hji26_ : (if a2 < 0 then 0 else a2) = ji26 := hji26
     replace H := Option.bind_eq_some_iff.mp H
     obtain ⟨t370, A270, H⟩ := H
     replace H : (if t367.length + t370.length < 140737488355328 then ((some (t367 ++ t370 : List Int)).bind fun y373 => ((incunableref06_RunBits.f kj13 (wrap64 (t366 - t357)) (wrap64 (1 - a3))).bind fun t376 => (if y373.length + t376.length < 140737488355328 then (some ((⟨#[102, 108, 97, 116]⟩ : ByteArray), (y373 ++ t376), t366, a3)) else (none)))) else (none)) = some (r1, r2, r3, r4) := H
     have A27 := Aside0.mk A270
     clear A270
     by_cases c28 : t367.length + t370.length < 140737488355328
     ·rw [if_pos c28] at H
      have LMc28 := Aside0.mk c28
      clear c28
      obtain ⟨y373, hy_⟩ : ∃ y_ : List Int, y_ = (t367 ++ t370) := ⟨_, rfl⟩
      replace H : ((incunableref06_RunBits.f kj13 (wrap64 (t366 - t357)) (wrap64 (1 - a3))).bind fun t376 => (if y373.length + t376.length < 140737488355328 then (some ((⟨#[102, 108, 97, 116]⟩ : ByteArray), (y373 ++ t376), t366, a3)) else (none))) = some (r1, r2, r3, r4) := rh
      have Ny373 := aE hy_
      clear hy_
      replace H := Option.bind_eq_some_iff.mp H
      obtain ⟨t376, A290, H⟩ := H
      replace H : (if y373.length + t376.length < 140737488355328 then (some ((⟨#[102, 108, 97, 116]⟩ : ByteArray), (y373 ++ t376), t366, a3)) else (none)) = some (r1, r2, r3, r4) := H
      have A29 := Aside0.mk A290
      clear A290
      by_cases c30 : y373.length + t376.length < 140737488355328
      ·rw [if_pos c30] at H
       have LMc30 := Aside0.mk c30
       clear c30
       obtain ⟨y379, hy_⟩ : ∃ y_ : List Int, y_ = (y373 ++ t376) := ⟨_, rfl⟩
       replace H : (some ((⟨#[102, 108, 97, 116]⟩ : ByteArray), y379, t366, a3)) = some (r1, r2, r3, r4) := rh
       have Ny379 := aE hy_
       clear hy_
       simp only [Option.some.injEq, Prod.mk.injEq] at H
       obtain ⟨rfl, rfl, rfl, rfl⟩ := H
       go_wp2_with (first | ((with_reducible refine gf 70 rfl ?_); refine gL (some 56) rfl rfl Tryd.func70 rfl #[.slice A1 l1.length c1, .int .i64 t357, .int .i64 a3] rfl ?_; (with_reducible refine (incunableref06_first.calls kj13 _ _ l1 t357 a3 t366 _ ?side1 ?side2 A24.out).mono ?_); (case side1 => exact cU (Kd.C_below HR1.out HB.out)); (case side2 => exact HC1.out); rintro e w' ⟨rfl, ⟨nd, rfl⟩⟩; refine ⟨_, rfl, ?_⟩; (try (rw [drewN_self wc]; generalize hq_ : World.drewN wc _ = wc; have n0_ : Aside0 (wc.heap[gb354]? = some (.cells #[.string (⟨#[]⟩ : ByteArray), .slice none 0 0, .int .i64 0, .int .i64 0] 37 (0, 0))) := ⟨by rw [← hq_]; exact (bU BK354.out)⟩; have n1_ : Aside0 (Below w.heap.size w wc) := ⟨by rw [← hq_]; exact bl⟩; clear BK354 HB hq_; have BK354 := n0_; have HB := n1_; clear n0_ n1_))) | ((with_reducible refine gf 71 rfl ?_); refine gL (some 57) rfl rfl Tryd.func71 rfl #[.string (⟨#[48, 48, 49]⟩ : ByteArray)] rfl ?_; (with_reducible refine (incunableref06_bitsOf.calls kj13 (⟨#[48, 48, 49]⟩ : ByteArray) t367 _ A25.out).mono ?_); rintro e w31 ⟨v368, rfl, ho0, hb⟩; refine ⟨_, rfl, ?_⟩; have n_ := aC (Kd.R_lower ho0 bz) (aC (blk_below (bU BK354.out) hb) (aE (bs hb))); clear BK354 HB; obtain ⟨HO369, BK354, HB⟩ := n_; (try clear hb); (try clear ho0)) | ((with_reducible refine gf 15 rfl ?_); refine goesL_ (some 63) rfl rfl Tryd.func15 (by kernel_rfl) rfl #[.int .i64 (wrap64 (t357 - (ji26))), .int .i64 a3] rfl (by (try simp only [List.map_toArray, List.map_cons, List.map_nil]); first | done | (simp only [hji26]; rfl) | rfl | (simp only [List.length_drop, List.length_take]; rfl)) ?_; (with_reducible refine (incunableref06_RunBits.calls kj13 (wrap64 (t357 - (ji26))) a3 t370 _ A27.out).mono ?_); rintro e w32 ⟨v371, rfl, ho0, hb⟩; refine ⟨_, rfl, ?_⟩; have n_ := aC (Kd.R_elder' (rU HO369.out) (Kd.R_base ho0) hb) (aC (Kd.R_lower (Kd.R_new' ho0 (Kd.R_lt (rU HO369.out))) bz) (aC (blk_below (bU BK354.out) hb) (aE (bs hb)))); clear HO369 BK354 HB; obtain ⟨HO369, HO372, BK354, HB⟩ := n_; (try clear hb); (try clear ho0); obtain ⟨Ao34, co34, eo34⟩ := Kd.R_slice HO372.out; subst eo34) | ((with_reducible refine gate_builtin (b := .append) (xs := #[.tmp 57, .tmp 63]) rfl ?_); at_builtin; refine Kd.R_append_rows (Kd.int .u8) (w0 := w) w.heap.size rfl (.tmp 57) (.tmp 63) 22 5 (.int .u8 0) 1 rfl Tryd.underlying22 info5 rfl (by decide) (by omega) v368 t367 t370 _ _ _ (fun k_ => some k_ ≠ (.slice Ao34 t370.length co34 : Value).ownBlock) (fun _ => False) rfl rfl ?aO ?aR (fun _ _ h => h) (fun _ h => h.elim) ?aF ?aB ?aS ?aL ?_; (case aR => repeat (first | exact (Kd.R_reads' HO372.out).2.2 | (with_reducible refine Kd.C_alloc ?_ _) | (with_reducible refine Kd.C_drewN ?_ _) | (with_reducible refine Kd.C_drew ?_))); (case aB => exact bl); (case aF => exact (fun k_ hk => Kd.fresh' (Kd.R_lt (rU HO372.out)) k_ hk)); (case aO => exact (rU (Kd.R_mono HO369.out (fun _ hk => hk.2)))); (case aS => exact bz); (case aL => have := LMc28.out; omega); intro v374 w33 ho hb hg hat; rw [← Ny373.out] at ho; have n_ := aC (blk_grown (bU BK354.out) hg (Kd.R_ne HO369.out BK354.out (by decide))) (aC (Kd.R_after (ok := (fun _ => True)) (rU HO372.out) hg hat) (aC hb (aE ho))); clear BK354 HO372 HB HO369; obtain ⟨BK354, HO372, HB, HO375⟩ := n_; clear ho hb hg hat) | ((with_reducible refine gf 15 rfl ?_); refine gL (some 71) rfl rfl Tryd.func15 rfl #[.int .i64 (wrap64 (t366 - t357)), .int .i64 (wrap64 (1 - a3))] rfl ?_; (with_reducible refine (incunableref06_RunBits.calls kj13 (wrap64 (t366 - t357)) (wrap64 (1 - a3)) t376 _ A29.out).mono ?_); rintro e w35 ⟨v377, rfl, ho0, hb⟩; refine ⟨_, rfl, ?_⟩; have n_ := aC (Kd.R_elder' (rU HO372.out) (Kd.R_base ho0) hb) (aC (Kd.R_elder' (rU HO375.out) (Kd.R_base ho0) hb) (aC (Kd.R_lower (Kd.R_new' (Kd.R_new' ho0 (Kd.R_lt (rU HO372.out))) (Kd.R_lt (rU HO375.out))) bz) (aC (blk_below (bU BK354.out) hb) (aE (bs hb))))); clear HO372 HO375 BK354 HB; obtain ⟨HO372, HO375, HO378, BK354, HB⟩ := n_; (try clear hb); (try clear ho0); obtain ⟨Ao37, co37, eo37⟩ := Kd.R_slice HO378.out; subst eo37) | ((with_reducible refine gate_builtin (b := .append) (xs := #[.tmp 65, .tmp 71]) rfl ?_); at_builtin; refine Kd.R_append_rows (Kd.int .u8) (w0 := w) w.heap.size rfl (.tmp 65) (.tmp 71) 22 5 (.int .u8 0) 1 rfl Tryd.underlying22 info5 rfl (by decide) (by omega) v374 y373 t376 _ _ _ (fun k_ => some k_ ≠ (.slice Ao34 t370.length co34 : Value).ownBlock ∧ some k_ ≠ (.slice Ao37 t376.length co37 : Value).ownBlock) (fun _ => False) rfl rfl ?aO ?aR (fun _ _ h => h) (fun _ h => h.elim) ?aF ?aB ?aS ?aL ?_; (case aR => repeat (first | exact (Kd.R_reads' HO378.out).2.2 | (with_reducible refine Kd.C_alloc ?_ _) | (with_reducible refine Kd.C_drewN ?_ _) | (with_reducible refine Kd.C_drew ?_))); (case aB => exact bl); (case aF => exact (fun k_ hk => ⟨Kd.fresh' (Kd.R_lt (rU HO372.out)) k_ hk, Kd.fresh' (Kd.R_lt (rU HO378.out)) k_ hk⟩)); (case aO => exact (rU HO375.out)); (case aS => exact bz); (case aL => have := LMc30.out; omega); intro v380 w36 ho hb hg hat; rw [← Ny379.out] at ho; have n_ := aC (blk_grown (bU BK354.out) hg (Kd.R_ne HO375.out BK354.out (by decide))) (aC (Kd.R_after (ok := (fun k_ => some k_ ≠ (.slice Ao37 t376.length co37 : Value).ownBlock)) (rU (Kd.R_mono HO372.out (fun _ hk => ⟨hk.2, hk.1.2⟩))) hg hat) (aC (Kd.R_after (ok := (fun k_ => some k_ ≠ (.slice Ao34 t370.length co34 : Value).ownBlock)) (rU (Kd.R_mono HO378.out (fun _ hk => ⟨hk.1.2, hk.2⟩))) hg hat) (aC hb (aE ho)))); clear BK354 HO372 HO378 HB HO375; obtain ⟨BK354, HO372, HO378, HB, HO381⟩ := n_; clear ho hb hg hat; obtain ⟨Ao38, co38, eo38⟩ := Kd.R_slice HO381.out; subst eo38; obtain ⟨hcz39_0, hcz39_1, hcz39_2, hcz39_3, hfz39_0, hfz39_1, hfz39_2, hfz39_3⟩ := cz4f BK354.out))
       refine bodyPost_ret (results_cell_row rfl _ _ gb354 37 #[.string (⟨#[102, 108, 97, 116]⟩ : ByteArray), .slice Ao38 y379.length co38, .int .i64 t366, .int .i64 a3] (0, 0) _ rfl (by (with_reducible repeat (first | refine blk_drewN ?_ _ | refine blk_drew ?_ | refine blk_alloc ?_ _)); refine blk_put (cs := #[.string (⟨#[102, 108, 97, 116]⟩ : ByteArray), .slice Ao38 y379.length co38, .int .i64 t366, .int .i64 0]) ?_ 3 _ rfl; (with_reducible repeat (first | refine blk_drewN ?_ _ | refine blk_drew ?_ | refine blk_alloc ?_ _)); refine blk_put (cs := #[.string (⟨#[102, 108, 97, 116]⟩ : ByteArray), .slice Ao38 y379.length co38, .int .i64 0, .int .i64 0]) ?_ 2 _ rfl; (with_reducible repeat (first | refine blk_drewN ?_ _ | refine blk_drew ?_ | refine blk_alloc ?_ _)); refine blk_put (cs := #[.string (⟨#[102, 108, 97, 116]⟩ : ByteArray), .slice none 0 0, .int .i64 0, .int .i64 0]) ?_ 1 _ rfl; (with_reducible repeat (first | refine blk_drewN ?_ _ | refine blk_drew ?_ | refine blk_alloc ?_ _)); refine blk_put (cs := #[.string (⟨#[]⟩ : ByteArray), .slice none 0 0, .int .i64 0, .int .i64 0]) ?_ 0 _ rfl; (with_reducible repeat (first | refine blk_drewN ?_ _ | refine blk_drew ?_ | refine blk_alloc ?_ _)); exact BK354.out) Tryd.underlying37 rfl (by kernel_rfl)) rfl ?_
       exact ⟨_, by first | rfl | (simp [errW_none, errW_some] <;> rfl) | (simp only [← hji26]; first | rfl | (simp [errW_none, errW_some] <;> rfl)) | (simp [*, errW_none, errW_some] <;> rfl), rU (Kd.R_mono (Kd.R_far (p := ⟨gb354, 3, none⟩) (Kd.R_far (p := ⟨gb354, 2, none⟩) (Kd.R_far (p := ⟨gb354, 1, none⟩) (Kd.R_far (p := ⟨gb354, 0, none⟩) (Kd.R_types HO381.out BK354.out (by decide)) (fun _ hk => hk.2) (.string (⟨#[102, 108, 97, 116]⟩ : ByteArray))) (fun _ hk => hk.2) (.slice Ao38 y379.length co38)) (fun _ hk => hk.2) (.int .i64 t366)) (fun _ hk => hk.2) (.int .i64 a3)) (fun _ hk => trivial)), bl⟩
      ·rw [if_neg c30] at H
       exact absurd H (by simp)
     ·rw [if_neg c28] at H
      exact absurd H (by simp)

/-! ### incunableref06_Modes: function 18 -/
def incunableref06_Modes.l0 : Nat → List Int → List Int → List (S37) → Int → Int → Option ((List (S37)))
 | 0, _, _, _, _, _ => none
 | k + 1, x0, x1, x5, x6, x7 => if (x1.length : Int) > 0 then (if x6 < (x1.length : Int) then ((incunableref06_Choice.f k x0 x1 x6 x7).bind fun bt382 => (if x5.length < 2513169434916 then (incunableref06_Modes.l0 k x0 x1 (x5 ++ [(⟨bt382.1, bt382.2.1, bt382.2.2.1, bt382.2.2.2⟩ : S37)]) bt382.2.2.1 bt382.2.2.2) else (none))) else (some x5)) else (some x5)
def incunableref06_Modes.f (k : Nat) (l0 : List Int) (l1 : List Int) : Option ((List (S37))) := incunableref06_Modes.l0 k l0 l1 ([] : List (S37)) (-1) 0
theorem incunableref06_Modes.mono_l : ∀ k, (∀ y0 y1 y2 y3 y4, LeO (incunableref06_Modes.l0 k y0 y1 y2 y3 y4) (incunableref06_Modes.l0 (k + 1) y0 y1 y2 y3 y4))
 | 0 => fun _ _ _ _ _ r h => by simp [incunableref06_Modes.l0] at h
 | k + 1 => by
  have ih0 := incunableref06_Modes.mono_l k
  ·intro y0 y1 y2 y3 y4
   unfold incunableref06_Modes.l0
   repeat' first
   | (with_reducible exact ih0 _ _ _ _ _)
   | (with_reducible exact incunableref06_Choice.mono _ _ _ _ _)
   | (with_reducible first | exact LeO.refl _ | exact LeO.none _ | refine LeO.ite ?_ ?_ | refine LeO.bind ?_ (fun _ => ?_))
   | exact ih0 _ _ _ _ _
   | exact incunableref06_Choice.mono _ _ _ _ _
   | exact LeO.none _ | refine LeO.ite ?_ ?_ | refine LeO.bind ?_ (fun _ => ?_)
theorem incunableref06_Modes.mono : ∀ a0 a1 k, LeO (incunableref06_Modes.f k a0 a1) (incunableref06_Modes.f (k + 1) a0 a1) := by
 intro a0 a1 k
 have ih0 := incunableref06_Modes.mono_l k
 unfold incunableref06_Modes.f
 repeat' first
   | (with_reducible exact ih0 _ _ _ _ _)
   | (with_reducible exact incunableref06_Choice.mono _ _ _ _ _)
   | (with_reducible first | exact LeO.refl _ | exact LeO.none _ | refine LeO.ite ?_ ?_ | refine LeO.bind ?_ (fun _ => ?_))
   | exact ih0 _ _ _ _ _
   | exact incunableref06_Choice.mono _ _ _ _ _
   | exact LeO.none _ | refine LeO.ite ?_ ?_ | refine LeO.bind ?_ (fun _ => ?_)
set_option maxHeartbeats 8000000 in
set_option maxRecDepth 100000 in
theorem incunableref06_Modes.calls (k : Nat) (A0 : Option Addr) (c0 : Nat) (l0 : List Int) (A1 : Option Addr) (c1 : Nat) (l1 : List Int) (r : List (S37)) (w : World) (hr0 : Kd.C (Kd.int .u8) w A0 l0.length l0) (hc0 : l0.length ≤ c0) (hr1 : Kd.C (Kd.int .u8) w A1 l1.length l1) (hc1 : l1.length ≤ c1) (h : incunableref06_Modes.f k l0 l1 = some r) :
  Calls Tryd.prog 18 #[.slice A0 l0.length c0, .slice A1 l1.length c1] w fun e w' => ∃ v0_ : Value, e = .returned (v0_) ∧ Kd.S k37 37 w' w.heap.size (fun _ => True) v0_ r ∧ Below w.heap.size w w' := by
 have hu37 := Tryd.underlying37
 have HR0 := Aside0.mk hr0
 have HC0 := Aside0.mk hc0
 clear hr0 hc0
 have HR1 := Aside0.mk hr1
 have HC1 := Aside0.mk hc1
 clear hr1 hc1
 have HB := Aside0.mk (Below.refl w.heap.size w)
 have H : (incunableref06_Modes.l0 k l0 l1 ([] : List (S37)) (-1) 0) = some r := h
 clear h
 have H' := Aside0.mk H
 clear H
 go_enter Tryd.func18, Tryd.ntmps18
 go_wp2
 go_loopg [5, 6, 7] k (fun kq v5 v6 v7 w' => ∃ (x5_1 : List (S37)) (x6_1 : Int) (x7_1 : Int), v6 = .int .i64 x6_1 ∧ v7 = .int .i64 x7_1 ∧ Aside0 (incunableref06_Modes.l0 kq l0 l1 x5_1 x6_1 x7_1 = some r) ∧ Aside0 (kq ≤ k) ∧ Aside0 (Kd.S k37 37 w' w.heap.size (fun _ => True) v5 x5_1) ∧ Aside0 (Below w.heap.size w w'))
 case atStart => exact ⟨(([] : List (S37))), ((-1)), (0), rq, rq, H', ⟨Nat.le_refl _⟩, ⟨by first | exact Kd.S_nil _ _ _ _ _ | exact Kd.N_nil _ _ _ _ _ | exact Kd.V_nil _ _ _ _ _ | exact Kd.Q_nil _ _ _ _ _ | exact Kd.R_nil _ _ _ _ _⟩, ⟨bl⟩⟩
 case round =>
  clear H'
  try clear c1
  obtain ⟨x5_1, x6_1, x7_1, rfl, rfl, HA, HK1, HO_5, HB⟩ := hrel
  cases gk with
  | zero => exact absurd HA.out (by simp [incunableref06_Modes.l0])
  | succ k1 =>
   have H := HA.out
   clear HA
   simp only [incunableref06_Modes.l0] at H
   by_cases c3 : (l1.length : Int) > 0
   ·rw [if_pos c3] at H
    have c3b0 := decide_eq_true c3
    have c3b1 : decide (0 < l1.length) = true := decide_eq_true (by omega)
    clear c3
    by_cases c4 : x6_1 < (l1.length : Int)
    ·rw [if_pos c4] at H
     have c4b0 := decide_eq_true c4
     clear c4
     replace H := Option.bind_eq_some_iff.mp H
     obtain ⟨⟨t382, t383, t386, t387⟩, A50, H⟩ := H
     replace H : (if x5_1.length < 2513169434916 then (incunableref06_Modes.l0 k1 l0 l1 (x5_1 ++ [(⟨t382, t383, t386, t387⟩ : S37)]) t386 t387) else (none)) = some r := H
     have A5 := Aside0.mk A50
     clear A50
     by_cases c6 : x5_1.length < 2513169434916
     ·rw [if_pos c6] at H
      have LMc6 := Aside0.mk c6
      clear c6
      obtain ⟨y389, hy_⟩ : ∃ y_ : List (S37), y_ = (x5_1 ++ [(⟨t382, t383, t386, t387⟩ : S37)]) := ⟨_, rfl⟩
      replace H : (incunableref06_Modes.l0 k1 l0 l1 y389 t386 t387) = some r := rh
      have Ny389 := aE hy_
      clear hy_
      have H' := Aside0.mk H
      clear H
      go_wp2_with (first | (go_at_call 44; (with_reducible refine (incunableref06_Choice.calls k1 _ _ l0 _ _ l1 x6_1 x7_1 t382 t383 t386 t387 _ ?side1 ?side2 ?side3 ?side4 A5.out).mono ?_); (case side1 => exact cU (Kd.C_below HR0.out HB.out)); (case side2 => exact HC0.out); (case side3 => exact cU (Kd.C_below HR1.out HB.out)); (case side4 => exact HC1.out); rintro e w7 ⟨v384, rfl, ho0, hb⟩; have n_ := aC (Kd.S_elder' (by (with_reducible repeat (first | apply Kd.S_alloc | apply Kd.S_drewN | apply Kd.S_drew)); exact HO_5.out) (Kd.R_base ho0) hb) (aC (Kd.R_lower ho0 bz) (aE (bs hb))); clear HO_5 HB; obtain ⟨HO_5, HO385, HB⟩ := n_; (try clear hb); (try clear ho0)) | ((with_reducible refine gd 8 rfl ?_); (try (refine gate_guard (by rfl) ?_; dsimp only)); refine bx 8 #[.string (⟨#[]⟩ : ByteArray), .slice none 0 0, .int .i64 0, .int .i64 0] 37 rfl rfl ?_; intro gb388 hg w8 hbox hb; have n_ := aC (Kd.S_below (Kd.S_elderB (by (with_reducible repeat (first | apply Kd.S_alloc | apply Kd.S_drewN | apply Kd.S_drew)); exact HO_5.out) gb388 (Nat.le_of_eq hg.symm)) hb) (aC (Kd.R_below (rU HO385.out) hb) (aC (bs hb) (aC hbox (aC (gz hg) (aE (gz hg)))))); clear HO_5 HO385 HB; obtain ⟨HO_5, HO385, HB, BK388, GW388, GE388⟩ := n_; clear hb hbox hg; obtain ⟨hcz9_0, hcz9_1, hcz9_2, hcz9_3, hfz9_0, hfz9_1, hfz9_2, hfz9_3⟩ := cz4f BK388.out; obtain ⟨Ao10, co10, eo10⟩ := Kd.R_slice HO385.out; subst eo10) | ((with_reducible refine gate_store (t := 37) (p := 8) rfl ?_); (try (rw [drewN_self w8]; generalize hq_ : World.drewN w8 _ = w8; have n0_ := Aside0.mk (Kd.S_at hq_ HO_5.out); have n1_ := Aside0.mk (Kd.R_at hq_ HO385.out); have n2_ := Aside0.mk (blk_at hq_ BK388.out); have n3_ := Aside0.mk (below_at hq_ HB.out); clear hq_ HO_5 HO385 BK388 HB; have HO_5 := n0_; have HO385 := n1_; have BK388 := n2_; have HB := n3_; clear n0_ n1_ n2_ n3_)); refine store_event (t := 37) (p := 8) (v := ?vo_w11) (w1 := ((((w8.setCell ⟨gb388, 0, none⟩ (.string t382)).setCell ⟨gb388, 1, none⟩ (.slice Ao10 t383.length co10)).setCell ⟨gb388, 2, none⟩ (.int .i64 t386)).setCell ⟨gb388, 3, none⟩ (.int .i64 t387))) ?hg ?ho ?hn ?hr ?_; (case ho => rfl); (case hg => rfl); (case hn => rfl); (case hr => first | (go_simp; done) | (go_simp; rfl)); intro w11 hw; have n_ := aC (show Kd.S k37 37 w11 w.heap.size (fun k_ => some k_ ≠ (.slice Ao10 t383.length co10 : Value).ownBlock ∧ k_ ≠ gb388) u5 x5_1 from (by rw [hw]; exact (by (with_reducible repeat (first | apply Kd.S_alloc | apply Kd.S_drewN | apply Kd.S_drew)); exact Kd.S_mono (Kd.S_far (p := ⟨gb388, 3, none⟩) (Kd.S_far (p := ⟨gb388, 2, none⟩) (Kd.S_far (p := ⟨gb388, 1, none⟩) (Kd.S_far (p := ⟨gb388, 0, none⟩) (Kd.S_mono HO_5.out (fun k_ hk => (⟨hk, hk.2⟩ : _ ∧ k_ ≠ gb388))) (fun _ hk => hk.2) (.string t382)) (fun _ hk => hk.2) (.slice Ao10 t383.length co10)) (fun _ hk => hk.2) (.int .i64 t386)) (fun _ hk => hk.2) (.int .i64 t387)) (fun _ hk => ⟨hk.1.1.2, hk.1.2⟩)))) (aC (show Kd.R (Kd.int .u8) 5 w11 w.heap.size (fun _ => True) (.slice Ao10 t383.length co10) t383 from (by rw [hw]; exact (rU (Kd.R_mono (Kd.R_far (p := ⟨gb388, 3, none⟩) (Kd.R_far (p := ⟨gb388, 2, none⟩) (Kd.R_far (p := ⟨gb388, 1, none⟩) (Kd.R_far (p := ⟨gb388, 0, none⟩) (Kd.R_types HO385.out BK388.out (by decide)) (fun _ hk => hk.2) (.string t382)) (fun _ hk => hk.2) (.slice Ao10 t383.length co10)) (fun _ hk => hk.2) (.int .i64 t386)) (fun _ hk => hk.2) (.int .i64 t387)) (fun _ hk => trivial))))) (aC (show w11.heap[gb388]? = some (.cells #[.string t382, .slice Ao10 t383.length co10, .int .i64 t386, .int .i64 t387] 37 (0, 0)) from (by rw [hw]; exact (by (with_reducible repeat (first | refine blk_drewN ?_ _ | refine blk_drew ?_ | refine blk_alloc ?_ _)); refine blk_put (cs := #[.string t382, .slice Ao10 t383.length co10, .int .i64 t386, .int .i64 0]) ?_ 3 _ rfl; (with_reducible repeat (first | refine blk_drewN ?_ _ | refine blk_drew ?_ | refine blk_alloc ?_ _)); refine blk_put (cs := #[.string t382, .slice Ao10 t383.length co10, .int .i64 0, .int .i64 0]) ?_ 2 _ rfl; (with_reducible repeat (first | refine blk_drewN ?_ _ | refine blk_drew ?_ | refine blk_alloc ?_ _)); refine blk_put (cs := #[.string t382, .slice none 0 0, .int .i64 0, .int .i64 0]) ?_ 1 _ rfl; (with_reducible repeat (first | refine blk_drewN ?_ _ | refine blk_drew ?_ | refine blk_alloc ?_ _)); refine blk_put (cs := #[.string (⟨#[]⟩ : ByteArray), .slice none 0 0, .int .i64 0, .int .i64 0]) ?_ 0 _ rfl; (with_reducible repeat (first | refine blk_drewN ?_ _ | refine blk_drew ?_ | refine blk_alloc ?_ _)); exact BK388.out))) (aE (show Below w.heap.size w w11 from (by rw [hw]; exact bl))))); clear hw HO_5 HO385 BK388 HB; obtain ⟨HO_5, HO385, BK388, HB⟩ := n_; obtain ⟨hcz12_0, hcz12_1, hcz12_2, hcz12_3, hfz12_0, hfz12_1, hfz12_2, hfz12_3⟩ := cz4f BK388.out) | ((with_reducible refine gate_builtin (b := .append) (xs := #[.tmp 23, .tmp 25]) rfl ?_); (try (refine gate_guard (by rfl) ?_; dsimp only)); at_builtin; refine Kd.S_append k37 (w0 := w) w.heap.size rfl (.tmp 23) (.tmp 25) 34 37 (.agg #[(.string ⟨#[]⟩), (.slice none 0 0), (.int .i64 0), (.int .i64 0)]) 56 rfl Tryd.underlying34 info37 rfl (by decide) (by omega) u5 x5_1 (⟨t382, t383, t386, t387⟩ : S37) [.string t382, .slice Ao10 t383.length co10, .int .i64 t386, .int .i64 t387] (fun k_ => k_ ≠ gb388) (fun k_ => some k_ = (.slice Ao10 t383.length co10 : Value).ownBlock) rfl rfl ?aP (fun k_ hk_ => ((Kd.R_mono (ok' := fun k_ => ((fun k_ => k_ ≠ gb388)) k_ ∧ some k_ ≠ (u5 : Value).ownBlock) (Kd.R_types (Kd.R_apart' (HO385.out) (Kd.S_typed HO_5.out) (by decide)) BK388.out (by decide)) (fun k_ hk => ⟨hk.2, hk.1.2⟩))).1 k_ hk_.symm) ?aF ?aO ?aB ?aS ?aL ?_; (case aP => exact k37_mkM _ _ _ (⟨t382, t383, t386, t387⟩ : S37) (Kd.R_mono (Kd.R_tight rfl (Kd.R_mono (ok' := fun k_ => ((fun k_ => k_ ≠ gb388)) k_ ∧ some k_ ≠ (u5 : Value).ownBlock) (Kd.R_types (Kd.R_apart' (HO385.out) (Kd.S_typed HO_5.out) (by decide)) BK388.out (by decide)) (fun k_ hk => ⟨hk.2, hk.1.2⟩))) (fun _ h_ => h_))); (case aB => exact bl); (case aF => exact (fun k_ hk => Kd.freshB (bU BK388.out) k_ hk)); (case aO => exact (by (with_reducible repeat (first | apply Kd.S_alloc | apply Kd.S_drewN | apply Kd.S_drew)); exact Kd.S_mono HO_5.out (fun k_ hk => ⟨hk.2, fun e_ => hk.1 e_⟩))); (case aS => exact bz); (case aL => have := LMc6.out; omega); intro v390 w13 ho hb hg hat; rw [← Ny389.out] at ho; have n_ := aC (blk_grown (bU BK388.out) hg (Kd.S_away HO_5.out (fun _ hk => hk.2))) (aC hb (aE ho)); clear BK388 HB HO_5 HO385; obtain ⟨BK388, HB, HO391⟩ := n_; clear ho hb hg hat; obtain ⟨hcz14_0, hcz14_1, hcz14_2, hcz14_3, hfz14_0, hfz14_1, hfz14_2, hfz14_3⟩ := cz4f BK388.out))
      repeat (go_quiet (first | (go_at_call 44; (with_reducible refine (incunableref06_Choice.calls k1 _ _ l0 _ _ l1 x6_1 x7_1 t382 t383 t386 t387 _ ?side1 ?side2 ?side3 ?side4 A5.out).mono ?_); (case side1 => exact cU (Kd.C_below HR0.out HB.out)); (case side2 => exact HC0.out); (case side3 => exact cU (Kd.C_below HR1.out HB.out)); (case side4 => exact HC1.out); rintro e w7 ⟨v384, rfl, ho0, hb⟩; have n_ := aC (Kd.S_elder' (by (with_reducible repeat (first | apply Kd.S_alloc | apply Kd.S_drewN | apply Kd.S_drew)); exact HO_5.out) (Kd.R_base ho0) hb) (aC (Kd.R_lower ho0 bz) (aE (bs hb))); clear HO_5 HB; obtain ⟨HO_5, HO385, HB⟩ := n_; (try clear hb); (try clear ho0)) | ((with_reducible refine gd 8 rfl ?_); (try (refine gate_guard (by rfl) ?_; dsimp only)); refine bx 8 #[.string (⟨#[]⟩ : ByteArray), .slice none 0 0, .int .i64 0, .int .i64 0] 37 rfl rfl ?_; intro gb388 hg w8 hbox hb; have n_ := aC (Kd.S_below (Kd.S_elderB (by (with_reducible repeat (first | apply Kd.S_alloc | apply Kd.S_drewN | apply Kd.S_drew)); exact HO_5.out) gb388 (Nat.le_of_eq hg.symm)) hb) (aC (Kd.R_below (rU HO385.out) hb) (aC (bs hb) (aC hbox (aC (gz hg) (aE (gz hg)))))); clear HO_5 HO385 HB; obtain ⟨HO_5, HO385, HB, BK388, GW388, GE388⟩ := n_; clear hb hbox hg; obtain ⟨hcz9_0, hcz9_1, hcz9_2, hcz9_3, hfz9_0, hfz9_1, hfz9_2, hfz9_3⟩ := cz4f BK388.out; obtain ⟨Ao10, co10, eo10⟩ := Kd.R_slice HO385.out; subst eo10) | ((with_reducible refine gate_store (t := 37) (p := 8) rfl ?_); (try (rw [drewN_self w8]; generalize hq_ : World.drewN w8 _ = w8; have n0_ := Aside0.mk (Kd.S_at hq_ HO_5.out); have n1_ := Aside0.mk (Kd.R_at hq_ HO385.out); have n2_ := Aside0.mk (blk_at hq_ BK388.out); have n3_ := Aside0.mk (below_at hq_ HB.out); clear hq_ HO_5 HO385 BK388 HB; have HO_5 := n0_; have HO385 := n1_; have BK388 := n2_; have HB := n3_; clear n0_ n1_ n2_ n3_)); refine store_event (t := 37) (p := 8) (v := ?vo_w11) (w1 := ((((w8.setCell ⟨gb388, 0, none⟩ (.string t382)).setCell ⟨gb388, 1, none⟩ (.slice Ao10 t383.length co10)).setCell ⟨gb388, 2, none⟩ (.int .i64 t386)).setCell ⟨gb388, 3, none⟩ (.int .i64 t387))) ?hg ?ho ?hn ?hr ?_; (case ho => rfl); (case hg => rfl); (case hn => rfl); (case hr => first | (go_simp; done) | (go_simp; rfl)); intro w11 hw; have n_ := aC (show Kd.S k37 37 w11 w.heap.size (fun k_ => some k_ ≠ (.slice Ao10 t383.length co10 : Value).ownBlock ∧ k_ ≠ gb388) u5 x5_1 from (by rw [hw]; exact (by (with_reducible repeat (first | apply Kd.S_alloc | apply Kd.S_drewN | apply Kd.S_drew)); exact Kd.S_mono (Kd.S_far (p := ⟨gb388, 3, none⟩) (Kd.S_far (p := ⟨gb388, 2, none⟩) (Kd.S_far (p := ⟨gb388, 1, none⟩) (Kd.S_far (p := ⟨gb388, 0, none⟩) (Kd.S_mono HO_5.out (fun k_ hk => (⟨hk, hk.2⟩ : _ ∧ k_ ≠ gb388))) (fun _ hk => hk.2) (.string t382)) (fun _ hk => hk.2) (.slice Ao10 t383.length co10)) (fun _ hk => hk.2) (.int .i64 t386)) (fun _ hk => hk.2) (.int .i64 t387)) (fun _ hk => ⟨hk.1.1.2, hk.1.2⟩)))) (aC (show Kd.R (Kd.int .u8) 5 w11 w.heap.size (fun _ => True) (.slice Ao10 t383.length co10) t383 from (by rw [hw]; exact (rU (Kd.R_mono (Kd.R_far (p := ⟨gb388, 3, none⟩) (Kd.R_far (p := ⟨gb388, 2, none⟩) (Kd.R_far (p := ⟨gb388, 1, none⟩) (Kd.R_far (p := ⟨gb388, 0, none⟩) (Kd.R_types HO385.out BK388.out (by decide)) (fun _ hk => hk.2) (.string t382)) (fun _ hk => hk.2) (.slice Ao10 t383.length co10)) (fun _ hk => hk.2) (.int .i64 t386)) (fun _ hk => hk.2) (.int .i64 t387)) (fun _ hk => trivial))))) (aC (show w11.heap[gb388]? = some (.cells #[.string t382, .slice Ao10 t383.length co10, .int .i64 t386, .int .i64 t387] 37 (0, 0)) from (by rw [hw]; exact (by (with_reducible repeat (first | refine blk_drewN ?_ _ | refine blk_drew ?_ | refine blk_alloc ?_ _)); refine blk_put (cs := #[.string t382, .slice Ao10 t383.length co10, .int .i64 t386, .int .i64 0]) ?_ 3 _ rfl; (with_reducible repeat (first | refine blk_drewN ?_ _ | refine blk_drew ?_ | refine blk_alloc ?_ _)); refine blk_put (cs := #[.string t382, .slice Ao10 t383.length co10, .int .i64 0, .int .i64 0]) ?_ 2 _ rfl; (with_reducible repeat (first | refine blk_drewN ?_ _ | refine blk_drew ?_ | refine blk_alloc ?_ _)); refine blk_put (cs := #[.string t382, .slice none 0 0, .int .i64 0, .int .i64 0]) ?_ 1 _ rfl; (with_reducible repeat (first | refine blk_drewN ?_ _ | refine blk_drew ?_ | refine blk_alloc ?_ _)); refine blk_put (cs := #[.string (⟨#[]⟩ : ByteArray), .slice none 0 0, .int .i64 0, .int .i64 0]) ?_ 0 _ rfl; (with_reducible repeat (first | refine blk_drewN ?_ _ | refine blk_drew ?_ | refine blk_alloc ?_ _)); exact BK388.out))) (aE (show Below w.heap.size w w11 from (by rw [hw]; exact bl))))); clear hw HO_5 HO385 BK388 HB; obtain ⟨HO_5, HO385, BK388, HB⟩ := n_; obtain ⟨hcz12_0, hcz12_1, hcz12_2, hcz12_3, hfz12_0, hfz12_1, hfz12_2, hfz12_3⟩ := cz4f BK388.out) | ((with_reducible refine gate_builtin (b := .append) (xs := #[.tmp 23, .tmp 25]) rfl ?_); (try (refine gate_guard (by rfl) ?_; dsimp only)); at_builtin; refine Kd.S_append k37 (w0 := w) w.heap.size rfl (.tmp 23) (.tmp 25) 34 37 (.agg #[(.string ⟨#[]⟩), (.slice none 0 0), (.int .i64 0), (.int .i64 0)]) 56 rfl Tryd.underlying34 info37 rfl (by decide) (by omega) u5 x5_1 (⟨t382, t383, t386, t387⟩ : S37) [.string t382, .slice Ao10 t383.length co10, .int .i64 t386, .int .i64 t387] (fun k_ => k_ ≠ gb388) (fun k_ => some k_ = (.slice Ao10 t383.length co10 : Value).ownBlock) rfl rfl ?aP (fun k_ hk_ => ((Kd.R_mono (ok' := fun k_ => ((fun k_ => k_ ≠ gb388)) k_ ∧ some k_ ≠ (u5 : Value).ownBlock) (Kd.R_types (Kd.R_apart' (HO385.out) (Kd.S_typed HO_5.out) (by decide)) BK388.out (by decide)) (fun k_ hk => ⟨hk.2, hk.1.2⟩))).1 k_ hk_.symm) ?aF ?aO ?aB ?aS ?aL ?_; (case aP => exact k37_mkM _ _ _ (⟨t382, t383, t386, t387⟩ : S37) (Kd.R_mono (Kd.R_tight rfl (Kd.R_mono (ok' := fun k_ => ((fun k_ => k_ ≠ gb388)) k_ ∧ some k_ ≠ (u5 : Value).ownBlock) (Kd.R_types (Kd.R_apart' (HO385.out) (Kd.S_typed HO_5.out) (by decide)) BK388.out (by decide)) (fun k_ hk => ⟨hk.2, hk.1.2⟩))) (fun _ h_ => h_))); (case aB => exact bl); (case aF => exact (fun k_ hk => Kd.freshB (bU BK388.out) k_ hk)); (case aO => exact (by (with_reducible repeat (first | apply Kd.S_alloc | apply Kd.S_drewN | apply Kd.S_drew)); exact Kd.S_mono HO_5.out (fun k_ hk => ⟨hk.2, fun e_ => hk.1 e_⟩))); (case aS => exact bz); (case aL => have := LMc6.out; omega); intro v390 w13 ho hb hg hat; rw [← Ny389.out] at ho; have n_ := aC (blk_grown (bU BK388.out) hg (Kd.S_away HO_5.out (fun _ hk => hk.2))) (aC hb (aE ho)); clear BK388 HB HO_5 HO385; obtain ⟨BK388, HB, HO391⟩ := n_; clear ho hb hg hat; obtain ⟨hcz14_0, hcz14_1, hcz14_2, hcz14_3, hfz14_0, hfz14_1, hfz14_2, hfz14_3⟩ := cz4f BK388.out)); try go_wp2_with (first | (go_at_call 44; (with_reducible refine (incunableref06_Choice.calls k1 _ _ l0 _ _ l1 x6_1 x7_1 t382 t383 t386 t387 _ ?side1 ?side2 ?side3 ?side4 A5.out).mono ?_); (case side1 => exact cU (Kd.C_below HR0.out HB.out)); (case side2 => exact HC0.out); (case side3 => exact cU (Kd.C_below HR1.out HB.out)); (case side4 => exact HC1.out); rintro e w7 ⟨v384, rfl, ho0, hb⟩; have n_ := aC (Kd.S_elder' (by (with_reducible repeat (first | apply Kd.S_alloc | apply Kd.S_drewN | apply Kd.S_drew)); exact HO_5.out) (Kd.R_base ho0) hb) (aC (Kd.R_lower ho0 bz) (aE (bs hb))); clear HO_5 HB; obtain ⟨HO_5, HO385, HB⟩ := n_; (try clear hb); (try clear ho0)) | ((with_reducible refine gd 8 rfl ?_); (try (refine gate_guard (by rfl) ?_; dsimp only)); refine bx 8 #[.string (⟨#[]⟩ : ByteArray), .slice none 0 0, .int .i64 0, .int .i64 0] 37 rfl rfl ?_; intro gb388 hg w8 hbox hb; have n_ := aC (Kd.S_below (Kd.S_elderB (by (with_reducible repeat (first | apply Kd.S_alloc | apply Kd.S_drewN | apply Kd.S_drew)); exact HO_5.out) gb388 (Nat.le_of_eq hg.symm)) hb) (aC (Kd.R_below (rU HO385.out) hb) (aC (bs hb) (aC hbox (aC (gz hg) (aE (gz hg)))))); clear HO_5 HO385 HB; obtain ⟨HO_5, HO385, HB, BK388, GW388, GE388⟩ := n_; clear hb hbox hg; obtain ⟨hcz9_0, hcz9_1, hcz9_2, hcz9_3, hfz9_0, hfz9_1, hfz9_2, hfz9_3⟩ := cz4f BK388.out; obtain ⟨Ao10, co10, eo10⟩ := Kd.R_slice HO385.out; subst eo10) | ((with_reducible refine gate_store (t := 37) (p := 8) rfl ?_); (try (rw [drewN_self w8]; generalize hq_ : World.drewN w8 _ = w8; have n0_ := Aside0.mk (Kd.S_at hq_ HO_5.out); have n1_ := Aside0.mk (Kd.R_at hq_ HO385.out); have n2_ := Aside0.mk (blk_at hq_ BK388.out); have n3_ := Aside0.mk (below_at hq_ HB.out); clear hq_ HO_5 HO385 BK388 HB; have HO_5 := n0_; have HO385 := n1_; have BK388 := n2_; have HB := n3_; clear n0_ n1_ n2_ n3_)); refine store_event (t := 37) (p := 8) (v := ?vo_w11) (w1 := ((((w8.setCell ⟨gb388, 0, none⟩ (.string t382)).setCell ⟨gb388, 1, none⟩ (.slice Ao10 t383.length co10)).setCell ⟨gb388, 2, none⟩ (.int .i64 t386)).setCell ⟨gb388, 3, none⟩ (.int .i64 t387))) ?hg ?ho ?hn ?hr ?_; (case ho => rfl); (case hg => rfl); (case hn => rfl); (case hr => first | (go_simp; done) | (go_simp; rfl)); intro w11 hw; have n_ := aC (show Kd.S k37 37 w11 w.heap.size (fun k_ => some k_ ≠ (.slice Ao10 t383.length co10 : Value).ownBlock ∧ k_ ≠ gb388) u5 x5_1 from (by rw [hw]; exact (by (with_reducible repeat (first | apply Kd.S_alloc | apply Kd.S_drewN | apply Kd.S_drew)); exact Kd.S_mono (Kd.S_far (p := ⟨gb388, 3, none⟩) (Kd.S_far (p := ⟨gb388, 2, none⟩) (Kd.S_far (p := ⟨gb388, 1, none⟩) (Kd.S_far (p := ⟨gb388, 0, none⟩) (Kd.S_mono HO_5.out (fun k_ hk => (⟨hk, hk.2⟩ : _ ∧ k_ ≠ gb388))) (fun _ hk => hk.2) (.string t382)) (fun _ hk => hk.2) (.slice Ao10 t383.length co10)) (fun _ hk => hk.2) (.int .i64 t386)) (fun _ hk => hk.2) (.int .i64 t387)) (fun _ hk => ⟨hk.1.1.2, hk.1.2⟩)))) (aC (show Kd.R (Kd.int .u8) 5 w11 w.heap.size (fun _ => True) (.slice Ao10 t383.length co10) t383 from (by rw [hw]; exact (rU (Kd.R_mono (Kd.R_far (p := ⟨gb388, 3, none⟩) (Kd.R_far (p := ⟨gb388, 2, none⟩) (Kd.R_far (p := ⟨gb388, 1, none⟩) (Kd.R_far (p := ⟨gb388, 0, none⟩) (Kd.R_types HO385.out BK388.out (by decide)) (fun _ hk => hk.2) (.string t382)) (fun _ hk => hk.2) (.slice Ao10 t383.length co10)) (fun _ hk => hk.2) (.int .i64 t386)) (fun _ hk => hk.2) (.int .i64 t387)) (fun _ hk => trivial))))) (aC (show w11.heap[gb388]? = some (.cells #[.string t382, .slice Ao10 t383.length co10, .int .i64 t386, .int .i64 t387] 37 (0, 0)) from (by rw [hw]; exact (by (with_reducible repeat (first | refine blk_drewN ?_ _ | refine blk_drew ?_ | refine blk_alloc ?_ _)); refine blk_put (cs := #[.string t382, .slice Ao10 t383.length co10, .int .i64 t386, .int .i64 0]) ?_ 3 _ rfl; (with_reducible repeat (first | refine blk_drewN ?_ _ | refine blk_drew ?_ | refine blk_alloc ?_ _)); refine blk_put (cs := #[.string t382, .slice Ao10 t383.length co10, .int .i64 0, .int .i64 0]) ?_ 2 _ rfl; (with_reducible repeat (first | refine blk_drewN ?_ _ | refine blk_drew ?_ | refine blk_alloc ?_ _)); refine blk_put (cs := #[.string t382, .slice none 0 0, .int .i64 0, .int .i64 0]) ?_ 1 _ rfl; (with_reducible repeat (first | refine blk_drewN ?_ _ | refine blk_drew ?_ | refine blk_alloc ?_ _)); refine blk_put (cs := #[.string (⟨#[]⟩ : ByteArray), .slice none 0 0, .int .i64 0, .int .i64 0]) ?_ 0 _ rfl; (with_reducible repeat (first | refine blk_drewN ?_ _ | refine blk_drew ?_ | refine blk_alloc ?_ _)); exact BK388.out))) (aE (show Below w.heap.size w w11 from (by rw [hw]; exact bl))))); clear hw HO_5 HO385 BK388 HB; obtain ⟨HO_5, HO385, BK388, HB⟩ := n_; obtain ⟨hcz12_0, hcz12_1, hcz12_2, hcz12_3, hfz12_0, hfz12_1, hfz12_2, hfz12_3⟩ := cz4f BK388.out) | ((with_reducible refine gate_builtin (b := .append) (xs := #[.tmp 23, .tmp 25]) rfl ?_); (try (refine gate_guard (by rfl) ?_; dsimp only)); at_builtin; refine Kd.S_append k37 (w0 := w) w.heap.size rfl (.tmp 23) (.tmp 25) 34 37 (.agg #[(.string ⟨#[]⟩), (.slice none 0 0), (.int .i64 0), (.int .i64 0)]) 56 rfl Tryd.underlying34 info37 rfl (by decide) (by omega) u5 x5_1 (⟨t382, t383, t386, t387⟩ : S37) [.string t382, .slice Ao10 t383.length co10, .int .i64 t386, .int .i64 t387] (fun k_ => k_ ≠ gb388) (fun k_ => some k_ = (.slice Ao10 t383.length co10 : Value).ownBlock) rfl rfl ?aP (fun k_ hk_ => ((Kd.R_mono (ok' := fun k_ => ((fun k_ => k_ ≠ gb388)) k_ ∧ some k_ ≠ (u5 : Value).ownBlock) (Kd.R_types (Kd.R_apart' (HO385.out) (Kd.S_typed HO_5.out) (by decide)) BK388.out (by decide)) (fun k_ hk => ⟨hk.2, hk.1.2⟩))).1 k_ hk_.symm) ?aF ?aO ?aB ?aS ?aL ?_; (case aP => exact k37_mkM _ _ _ (⟨t382, t383, t386, t387⟩ : S37) (Kd.R_mono (Kd.R_tight rfl (Kd.R_mono (ok' := fun k_ => ((fun k_ => k_ ≠ gb388)) k_ ∧ some k_ ≠ (u5 : Value).ownBlock) (Kd.R_types (Kd.R_apart' (HO385.out) (Kd.S_typed HO_5.out) (by decide)) BK388.out (by decide)) (fun k_ hk => ⟨hk.2, hk.1.2⟩))) (fun _ h_ => h_))); (case aB => exact bl); (case aF => exact (fun k_ hk => Kd.freshB (bU BK388.out) k_ hk)); (case aO => exact (by (with_reducible repeat (first | apply Kd.S_alloc | apply Kd.S_drewN | apply Kd.S_drew)); exact Kd.S_mono HO_5.out (fun k_ hk => ⟨hk.2, fun e_ => hk.1 e_⟩))); (case aS => exact bz); (case aL => have := LMc6.out; omega); intro v390 w13 ho hb hg hat; rw [← Ny389.out] at ho; have n_ := aC (blk_grown (bU BK388.out) hg (Kd.S_away HO_5.out (fun _ hk => hk.2))) (aC hb (aE ho)); clear BK388 HB HO_5 HO385; obtain ⟨BK388, HB, HO391⟩ := n_; clear ho hb hg hat; obtain ⟨hcz14_0, hcz14_1, hcz14_2, hcz14_3, hfz14_0, hfz14_1, hfz14_2, hfz14_3⟩ := cz4f BK388.out)))
      go_roundg k1
      case measure => have := HK1.out; omega
      case rel => exact ⟨(y389), (t386), (t387), rq, rq, H', ⟨by have := HK1.out; omega⟩, ⟨by (with_reducible repeat (first | apply Kd.S_alloc | apply Kd.S_drewN | apply Kd.S_drew)); exact Kd.S_mono HO391.out (fun _ hk => trivial)⟩, ⟨bl⟩⟩
     ·rw [if_neg c6] at H
      exact absurd H (by simp)
    ·rw [if_neg c4] at H
     have c4b0 := decide_eq_false c4
     clear c4
     obtain rfl := Option.some.inj H
     go_wp2
     go_ret
     exact ⟨_, re, by (with_reducible repeat (first | apply Kd.S_alloc | apply Kd.S_drewN | apply Kd.S_drew)); exact HO_5.out, bl⟩
   ·rw [if_neg c3] at H
    have c3b0 := decide_eq_false c3
    have c3b1 : decide (0 < l1.length) = false := decide_eq_false (by omega)
    clear c3
    obtain rfl := Option.some.inj H
    go_wp2
    go_ret
    exact ⟨_, re, by (with_reducible repeat (first | apply Kd.S_alloc | apply Kd.S_drewN | apply Kd.S_drew)); exact HO_5.out, bl⟩

/-! ### incunablelaw06_RunsModes: function 4 -/
mutual
def incunablelaw06_RunsModes.j0 : Nat → List Int → List Int → List ByteArray → Int → Bool → Option (Bool)
 | 0, _, _, _, _, _ => none
 | k + 1, x0, x1, x5, x6, x30 => if x30 = true then (if (x5.length : Int) = 0 then (if x6 = 2 then ((incunablelaw06_Awake.f k).bind fun t398 => (some t398)) else (some false)) else (some false)) else ((incunableref06_Modes.f k x0 x1).bind fun t399 => (if x6 = 0 then (incunablelaw06_RunsModes.j1 k x5 t399 ((x5.length : Int) != (t399.length : Int))) else (incunablelaw06_RunsModes.j1 k x5 t399 true)))
def incunablelaw06_RunsModes.j1 : Nat → List ByteArray → List (S37) → Bool → Option (Bool)
 | 0, _, _, _ => none
 | k + 1, x5, x7, x52 => if x52 = true then (some false) else (incunablelaw06_RunsModes.l0 k x5 x7 (x7.length : Int) 0)
def incunablelaw06_RunsModes.l0 : Nat → List ByteArray → List (S37) → Int → Int → Option (Bool)
 | 0, _, _, _, _ => none
 | k + 1, x5, x53, x54, x55 => if x55 < x54 then (if 0 ≤ x55 then (if x55 < (x53.length : Int) then (if x55 < (x5.length : Int) then (if (rdOf ByteArray.empty x5 x55).toList = ((rd_T37 x53 x55).f0).toList then (incunablelaw06_RunsModes.l0 k x5 x53 x54 (wrap64 (x55 + 1))) else (some false)) else (none)) else (none)) else (none)) else ((incunablelaw06_Awake.f k).bind fun t405 => (some t405))
end
def incunablelaw06_RunsModes.f (k : Nat) (l0 : List Int) (l1 : List Int) : Option (Bool) := (runs_Modes.f k l0 l1).bind fun bt392 => ((incunablelaw06_isRow.f k l0).bind fun t396 => (if t396 = true then ((incunablelaw06_isRow.f k l1).bind fun t397 => (if t397 = true then (incunablelaw06_RunsModes.j0 k l0 l1 bt392.1 bt392.2 ((l0.length : Int) != (l1.length : Int))) else (incunablelaw06_RunsModes.j0 k l0 l1 bt392.1 bt392.2 true))) else (incunablelaw06_RunsModes.j0 k l0 l1 bt392.1 bt392.2 true)))
theorem incunablelaw06_RunsModes.mono_l : ∀ k, (∀ y0 y1 y2 y3 y4, LeO (incunablelaw06_RunsModes.j0 k y0 y1 y2 y3 y4) (incunablelaw06_RunsModes.j0 (k + 1) y0 y1 y2 y3 y4)) ∧ (∀ y0 y1 y2, LeO (incunablelaw06_RunsModes.j1 k y0 y1 y2) (incunablelaw06_RunsModes.j1 (k + 1) y0 y1 y2)) ∧ (∀ y0 y1 y2 y3, LeO (incunablelaw06_RunsModes.l0 k y0 y1 y2 y3) (incunablelaw06_RunsModes.l0 (k + 1) y0 y1 y2 y3))
 | 0 => ⟨fun _ _ _ _ _ r h => by simp [incunablelaw06_RunsModes.j0] at h, fun _ _ _ r h => by simp [incunablelaw06_RunsModes.j1] at h, fun _ _ _ _ r h => by simp [incunablelaw06_RunsModes.l0] at h⟩
 | k + 1 => by
  obtain ⟨ih0, ih1, ih2⟩ := incunablelaw06_RunsModes.mono_l k
  refine ⟨?_, ?_, ?_⟩
  ·intro y0 y1 y2 y3 y4
   unfold incunablelaw06_RunsModes.j0
   repeat' first
   | (with_reducible exact ih0 _ _ _ _ _)
   | (with_reducible exact ih1 _ _ _)
   | (with_reducible exact ih2 _ _ _ _)
   | (with_reducible exact incunablelaw06_Awake.mono _)
   | (with_reducible exact incunablelaw06_isRow.mono _ _)
   | (with_reducible exact incunableref06_Modes.mono _ _ _)
   | (with_reducible exact runs_Modes.mono _ _ _)
   | (with_reducible first | exact LeO.refl _ | exact LeO.none _ | refine LeO.ite ?_ ?_ | refine LeO.bind ?_ (fun _ => ?_))
   | exact ih0 _ _ _ _ _
   | exact ih1 _ _ _
   | exact ih2 _ _ _ _
   | exact incunablelaw06_Awake.mono _
   | exact incunablelaw06_isRow.mono _ _
   | exact incunableref06_Modes.mono _ _ _
   | exact runs_Modes.mono _ _ _
   | exact LeO.none _ | refine LeO.ite ?_ ?_ | refine LeO.bind ?_ (fun _ => ?_)
  ·intro y0 y1 y2
   unfold incunablelaw06_RunsModes.j1
   repeat' first
   | (with_reducible exact ih0 _ _ _ _ _)
   | (with_reducible exact ih1 _ _ _)
   | (with_reducible exact ih2 _ _ _ _)
   | (with_reducible exact incunablelaw06_Awake.mono _)
   | (with_reducible exact incunablelaw06_isRow.mono _ _)
   | (with_reducible exact incunableref06_Modes.mono _ _ _)
   | (with_reducible exact runs_Modes.mono _ _ _)
   | (with_reducible first | exact LeO.refl _ | exact LeO.none _ | refine LeO.ite ?_ ?_ | refine LeO.bind ?_ (fun _ => ?_))
   | exact ih0 _ _ _ _ _
   | exact ih1 _ _ _
   | exact ih2 _ _ _ _
   | exact incunablelaw06_Awake.mono _
   | exact incunablelaw06_isRow.mono _ _
   | exact incunableref06_Modes.mono _ _ _
   | exact runs_Modes.mono _ _ _
   | exact LeO.none _ | refine LeO.ite ?_ ?_ | refine LeO.bind ?_ (fun _ => ?_)
  ·intro y0 y1 y2 y3
   unfold incunablelaw06_RunsModes.l0
   repeat' first
   | (with_reducible exact ih0 _ _ _ _ _)
   | (with_reducible exact ih1 _ _ _)
   | (with_reducible exact ih2 _ _ _ _)
   | (with_reducible exact incunablelaw06_Awake.mono _)
   | (with_reducible exact incunablelaw06_isRow.mono _ _)
   | (with_reducible exact incunableref06_Modes.mono _ _ _)
   | (with_reducible exact runs_Modes.mono _ _ _)
   | (with_reducible first | exact LeO.refl _ | exact LeO.none _ | refine LeO.ite ?_ ?_ | refine LeO.bind ?_ (fun _ => ?_))
   | exact ih0 _ _ _ _ _
   | exact ih1 _ _ _
   | exact ih2 _ _ _ _
   | exact incunablelaw06_Awake.mono _
   | exact incunablelaw06_isRow.mono _ _
   | exact incunableref06_Modes.mono _ _ _
   | exact runs_Modes.mono _ _ _
   | exact LeO.none _ | refine LeO.ite ?_ ?_ | refine LeO.bind ?_ (fun _ => ?_)
theorem incunablelaw06_RunsModes.mono : ∀ a0 a1 k, LeO (incunablelaw06_RunsModes.f k a0 a1) (incunablelaw06_RunsModes.f (k + 1) a0 a1) := by
 intro a0 a1 k
 obtain ⟨ih0, ih1, ih2⟩ := incunablelaw06_RunsModes.mono_l k
 unfold incunablelaw06_RunsModes.f
 repeat' first
   | (with_reducible exact ih0 _ _ _ _ _)
   | (with_reducible exact ih1 _ _ _)
   | (with_reducible exact ih2 _ _ _ _)
   | (with_reducible exact incunablelaw06_Awake.mono _)
   | (with_reducible exact incunablelaw06_isRow.mono _ _)
   | (with_reducible exact incunableref06_Modes.mono _ _ _)
   | (with_reducible exact runs_Modes.mono _ _ _)
   | (with_reducible first | exact LeO.refl _ | exact LeO.none _ | refine LeO.ite ?_ ?_ | refine LeO.bind ?_ (fun _ => ?_))
   | exact ih0 _ _ _ _ _
   | exact ih1 _ _ _
   | exact ih2 _ _ _ _
   | exact incunablelaw06_Awake.mono _
   | exact incunablelaw06_isRow.mono _ _
   | exact incunableref06_Modes.mono _ _ _
   | exact runs_Modes.mono _ _ _
   | exact LeO.none _ | refine LeO.ite ?_ ?_ | refine LeO.bind ?_ (fun _ => ?_)
set_option maxHeartbeats 8000000 in
set_option maxRecDepth 100000 in
theorem incunablelaw06_RunsModes.calls (k : Nat) (A0 : Option Addr) (c0 : Nat) (l0 : List Int) (A1 : Option Addr) (c1 : Nat) (l1 : List Int) (r : Bool) (w : World) (hT0 : TIs w) (hr0 : Kd.C (Kd.int .u8) w A0 l0.length l0) (hc0 : l0.length ≤ c0) (hr1 : Kd.C (Kd.int .u8) w A1 l1.length l1) (hc1 : l1.length ≤ c1) (h : incunablelaw06_RunsModes.f k l0 l1 = some r) (hr_ : r = true) :
  Calls Tryd.prog 4 #[.slice A0 l0.length c0, .slice A1 l1.length c1] w fun e w' => e = .returned (.bool r) ∧ Below w.heap.size w w' := by
 have HTI := Aside0.mk hT0
 clear hT0
 have HR_ := Aside0.mk hr_
 clear hr_
 have hu37 := Tryd.underlying37
 have HR0 := Aside0.mk hr0
 have HC0 := Aside0.mk hc0
 clear hr0 hc0
 have HR1 := Aside0.mk hr1
 have HC1 := Aside0.mk hc1
 clear hr1 hc1
 have HB := Aside0.mk (Below.refl w.heap.size w)
 have H : ((runs_Modes.f k l0 l1).bind fun bt392 => ((incunablelaw06_isRow.f k l0).bind fun t396 => (if t396 = true then ((incunablelaw06_isRow.f k l1).bind fun t397 => (if t397 = true then (incunablelaw06_RunsModes.j0 k l0 l1 bt392.1 bt392.2 ((l0.length : Int) != (l1.length : Int))) else (incunablelaw06_RunsModes.j0 k l0 l1 bt392.1 bt392.2 true))) else (incunablelaw06_RunsModes.j0 k l0 l1 bt392.1 bt392.2 true)))) = some r := h
 clear h
 replace H := Option.bind_eq_some_iff.mp H
 obtain ⟨⟨t392, t393⟩, A30, H⟩ := H
 replace H : ((incunablelaw06_isRow.f k l0).bind fun t396 => (if t396 = true then ((incunablelaw06_isRow.f k l1).bind fun t397 => (if t397 = true then (incunablelaw06_RunsModes.j0 k l0 l1 t392 t393 ((l0.length : Int) != (l1.length : Int))) else (incunablelaw06_RunsModes.j0 k l0 l1 t392 t393 true))) else (incunablelaw06_RunsModes.j0 k l0 l1 t392 t393 true))) = some r := H
 have A3 := Aside0.mk A30
 clear A30
 have HC4 := Aside0.mk H
 clear H
 go_enter Tryd.func4, Tryd.ntmps4
 go_upto_region 2 with (first | (go_at_call 16; (with_reducible refine (runs_Modes.calls k _ _ l0 _ _ l1 t392 t393 _ (TIs.on HTI) ?side1 ?side2 ?side3 ?side4 A3.out).mono ?_); (case side1 => exact cU HR0.out); (case side2 => exact HC0.out); (case side3 => exact cU HR1.out); (case side4 => exact HC1.out); rintro e w5 ⟨v394, rfl, ho0, hb⟩; have n_ := aC (Kd.R_lower ho0 bz) (aE (bs hb)); clear HB; obtain ⟨HO395, HB⟩ := n_; (try clear hb); (try clear ho0)))
 (try simp only [Act.put, List.setIfInBounds_toArray, List.set_cons_zero, List.set_cons_succ])
 go_cut [30] (fun v30 wc => ∃ (kq : Nat) (x30_3 : Bool), v30 = .bool x30_3 ∧ Aside0 (incunablelaw06_RunsModes.j0 kq l0 l1 t392 t393 x30_3 = some r) ∧ Aside0 (kq ≤ k) ∧ Aside0 (Kd.R Kd.string 9 wc w.heap.size (fun _ => True) v394 t392) ∧ Aside0 (Below w.heap.size w wc))
 case first =>
  have H := HC4.out
  clear HC4
  replace H := Option.bind_eq_some_iff.mp H
  obtain ⟨t396, A60, H⟩ := H
  replace H : (if t396 = true then ((incunablelaw06_isRow.f k l1).bind fun t397 => (if t397 = true then (incunablelaw06_RunsModes.j0 k l0 l1 t392 t393 ((l0.length : Int) != (l1.length : Int))) else (incunablelaw06_RunsModes.j0 k l0 l1 t392 t393 true))) else (incunablelaw06_RunsModes.j0 k l0 l1 t392 t393 true)) = some r := H
  have A6 := Aside0.mk A60
  clear A60
  by_cases c7 : t396 = true
  ·subst c7
   have H1 : ((incunablelaw06_isRow.f k l1).bind fun t397 => (if t397 = true then (incunablelaw06_RunsModes.j0 k l0 l1 t392 t393 ((l0.length : Int) != (l1.length : Int))) else (incunablelaw06_RunsModes.j0 k l0 l1 t392 t393 true))) = some r := by rw [if_pos rfl] at H; exact H
   clear H
   have H := H1
   clear H1
   replace H := Option.bind_eq_some_iff.mp H
   obtain ⟨t397, A80, H⟩ := H
   replace H : (if t397 = true then (incunablelaw06_RunsModes.j0 k l0 l1 t392 t393 ((l0.length : Int) != (l1.length : Int))) else (incunablelaw06_RunsModes.j0 k l0 l1 t392 t393 true)) = some r := H
   have A8 := Aside0.mk A80
   clear A80
   by_cases c9 : t397 = true
   ·subst c9
    have H1 : (incunablelaw06_RunsModes.j0 k l0 l1 t392 t393 ((l0.length : Int) != (l1.length : Int))) = some r := by rw [if_pos rfl] at H; exact H
    clear H
    have H := H1
    clear H1
    have H' := Aside0.mk H
    clear H
    go_wp2_with (first | (go_at_call 17; (with_reducible refine (incunablelaw06_isRow.calls k _ _ l0 true _ ?side1 ?side2 A6.out).mono ?_); (case side1 => exact cU (Kd.C_below HR0.out HB.out)); (case side2 => exact HC0.out); rintro e w' ⟨rfl, ⟨nd, rfl⟩⟩; (try first | exact ⟨rfl, _, World.drewN_drewN _ _ _⟩ | exact ⟨rfl, _, Eq.trans (World.drewN_drewN _ _ _) (congrArg (World.drewN _) (Nat.add_assoc _ _ _))⟩)) | (go_at_call 17; (with_reducible refine (incunablelaw06_isRow.calls k _ _ l1 true _ ?side1 ?side2 A8.out).mono ?_); (case side1 => exact cU (Kd.C_below HR1.out bl)); (case side2 => exact HC1.out); rintro e w' ⟨rfl, ⟨nd, rfl⟩⟩; (try first | exact ⟨rfl, _, World.drewN_drewN _ _ _⟩ | exact ⟨rfl, _, Eq.trans (World.drewN_drewN _ _ _) (congrArg (World.drewN _) (Nat.add_assoc _ _ _))⟩)))
    go_meet
    case rel => exact ⟨_, (((l0.length : Int) != (l1.length : Int))), rq, H', ⟨by first | omega | exact Nat.le_refl _⟩, ⟨rU HO395.out⟩, ⟨bl⟩⟩
   ·replace c9 := Bool.eq_false_iff.mpr c9
    subst c9
    have H1 : (incunablelaw06_RunsModes.j0 k l0 l1 t392 t393 true) = some r := by rw [if_neg (show ¬ (false = true) by decide)] at H; exact H
    clear H
    have H := H1
    clear H1
    have H' := Aside0.mk H
    clear H
    go_wp2_with (first | (go_at_call 17; (with_reducible refine (incunablelaw06_isRow.calls k _ _ l0 true _ ?side1 ?side2 A6.out).mono ?_); (case side1 => exact cU (Kd.C_below HR0.out HB.out)); (case side2 => exact HC0.out); rintro e w' ⟨rfl, ⟨nd, rfl⟩⟩; (try first | exact ⟨rfl, _, World.drewN_drewN _ _ _⟩ | exact ⟨rfl, _, Eq.trans (World.drewN_drewN _ _ _) (congrArg (World.drewN _) (Nat.add_assoc _ _ _))⟩)) | (go_at_call 17; (with_reducible refine (incunablelaw06_isRow.calls k _ _ l1 false _ ?side1 ?side2 A8.out).mono ?_); (case side1 => exact cU (Kd.C_below HR1.out bl)); (case side2 => exact HC1.out); rintro e w' ⟨rfl, ⟨nd, rfl⟩⟩; (try first | exact ⟨rfl, _, World.drewN_drewN _ _ _⟩ | exact ⟨rfl, _, Eq.trans (World.drewN_drewN _ _ _) (congrArg (World.drewN _) (Nat.add_assoc _ _ _))⟩)))
    go_meet
    case rel => exact ⟨_, (true), rq, H', ⟨by first | omega | exact Nat.le_refl _⟩, ⟨rU HO395.out⟩, ⟨bl⟩⟩
  ·replace c7 := Bool.eq_false_iff.mpr c7
   subst c7
   have H1 : (incunablelaw06_RunsModes.j0 k l0 l1 t392 t393 true) = some r := by rw [if_neg (show ¬ (false = true) by decide)] at H; exact H
   clear H
   have H := H1
   clear H1
   have H' := Aside0.mk H
   clear H
   go_wp2_with (first | (go_at_call 17; (with_reducible refine (incunablelaw06_isRow.calls k _ _ l0 false _ ?side1 ?side2 A6.out).mono ?_); (case side1 => exact cU (Kd.C_below HR0.out HB.out)); (case side2 => exact HC0.out); rintro e w' ⟨rfl, ⟨nd, rfl⟩⟩; (try first | exact ⟨rfl, _, World.drewN_drewN _ _ _⟩ | exact ⟨rfl, _, Eq.trans (World.drewN_drewN _ _ _) (congrArg (World.drewN _) (Nat.add_assoc _ _ _))⟩)))
   go_meet
   case rel => exact ⟨_, (true), rq, H', ⟨by first | omega | exact Nat.le_refl _⟩, ⟨rU HO395.out⟩, ⟨bl⟩⟩
 case rest =>
  clear HC4
  try clear c1
  obtain ⟨kq, x30_3, rfl, HA, HJ3, HO_5, HB⟩ := hcut
  cases kq with
  | zero => exact absurd HA.out (by simp [incunablelaw06_RunsModes.j0])
  | succ kj3 =>
   have H := HA.out
   clear HA
   simp only [incunablelaw06_RunsModes.j0] at H
   by_cases c10 : x30_3 = true
   ·subst c10
    have H1 : (if (t392.length : Int) = 0 then (if t393 = 2 then ((incunablelaw06_Awake.f kj3).bind fun t398 => (some t398)) else (some false)) else (some false)) = some r := by rw [if_pos rfl] at H; exact H
    clear H
    have H := H1
    clear H1
    by_cases c11 : (t392.length : Int) = 0
    ·rw [if_pos c11] at H
     have c11b0 := beq_iff_eq.mpr c11
     have c11b1 := bne_eq_false_iff_eq.mpr c11
     clear c11
     by_cases c12 : t393 = 2
     ·rw [if_pos c12] at H
      have c12b0 := beq_iff_eq.mpr c12
      have c12b1 := bne_eq_false_iff_eq.mpr c12
      clear c12
      replace H := Option.bind_eq_some_iff.mp H
      obtain ⟨t398, A130, H⟩ := H
      replace H : (some t398) = some r := H
      have A13 := Aside0.mk A130
      clear A130
      obtain rfl := Option.some.inj H
      obtain ⟨Ao14, co14, eo14⟩ := Kd.R_slice HO_5.out
      subst eo14
      go_wp2_with (first | (go_at_call 13; (with_reducible refine (incunablelaw06_Awake.calls kj3  t398 _ (TIs.on HTI) A13.out).mono ?_); rintro e w15 ⟨rfl, hb⟩; have n_ := aC (Kd.R_below (rU HO_5.out) hb) (aE (bs hb)); clear HO_5 HB; obtain ⟨HO_5, HB⟩ := n_; (try clear hb)))
      go_ret
      exact ⟨re, bl⟩
     ·rw [if_neg c12] at H
      have c12b0 := beq_eq_false_iff_ne.mpr c12
      have c12b1 := bne_iff_ne.mpr c12
      exact absurd ((Option.some.inj H).trans HR_.out) (by decide)
    ·rw [if_neg c11] at H
     have c11b0 := beq_eq_false_iff_ne.mpr c11
     have c11b1 := bne_iff_ne.mpr c11
     have c11b2 : ¬ (t392 = []) := fun h_ => c11 (by rw [h_]; rfl)
     exact absurd ((Option.some.inj H).trans HR_.out) (by decide)
   ·replace c10 := Bool.eq_false_iff.mpr c10
    subst c10
    have H1 : ((incunableref06_Modes.f kj3 l0 l1).bind fun t399 => (if t393 = 0 then (incunablelaw06_RunsModes.j1 kj3 t392 t399 ((t392.length : Int) != (t399.length : Int))) else (incunablelaw06_RunsModes.j1 kj3 t392 t399 true))) = some r := by rw [if_neg (show ¬ (false = true) by decide)] at H; exact H
    clear H
    have H := H1
    clear H1
    replace H := Option.bind_eq_some_iff.mp H
    obtain ⟨t399, A160, H⟩ := H
    replace H : (if t393 = 0 then (incunablelaw06_RunsModes.j1 kj3 t392 t399 ((t392.length : Int) != (t399.length : Int))) else (incunablelaw06_RunsModes.j1 kj3 t392 t399 true)) = some r := H
    have A16 := Aside0.mk A160
    clear A160
    have HC17 := Aside0.mk H
    clear H
    go_upto_region 5 with (first | (go_at_call 18; (with_reducible refine (incunableref06_Modes.calls kj3 _ _ l0 _ _ l1 t399 _ ?side1 ?side2 ?side3 ?side4 A16.out).mono ?_); (case side1 => exact cU (Kd.C_below HR0.out HB.out)); (case side2 => exact HC0.out); (case side3 => exact cU (Kd.C_below HR1.out HB.out)); (case side4 => exact HC1.out); rintro e w18 ⟨v400, rfl, ho0, hb⟩; have n_ := aC (Kd.R_below (rU HO_5.out) hb) (aC (Kd.S_lower ho0 bz) (aE (bs hb))); clear HO_5 HB; obtain ⟨HO_5, HO401, HB⟩ := n_; (try clear hb); (try clear ho0)))
    (try simp only [Act.put, List.setIfInBounds_toArray, List.set_cons_zero, List.set_cons_succ])
    go_cut [52] (fun v52 wc => ∃ (kq : Nat) (x52_16 : Bool), v52 = .bool x52_16 ∧ Aside0 (incunablelaw06_RunsModes.j1 kq t392 t399 x52_16 = some r) ∧ Aside0 (kq ≤ kj3) ∧ Aside0 (Kd.R Kd.string 9 wc w.heap.size (fun _ => True) v394 t392) ∧ Aside0 (Kd.S k37 37 wc w.heap.size (fun _ => True) v400 t399) ∧ Aside0 (Below w.heap.size w wc))
    case first =>
     have H := HC17.out
     clear HC17
     by_cases c19 : t393 = 0
     ·rw [if_pos c19] at H
      have c19b0 := beq_iff_eq.mpr c19
      have c19b1 := bne_eq_false_iff_eq.mpr c19
      clear c19
      (first | rw [c19b0] | (simp only [i64_w, i32_w]; rw [c19b0]) | skip)
      have H' := Aside0.mk H
      clear H
      obtain ⟨Ao20, co20, eo20⟩ := Kd.R_slice HO_5.out
      subst eo20
      obtain ⟨Ao21, co21, eo21⟩ := Kd.S_slice HO401.out
      subst eo21
      go_wp2
      go_meet
      case rel => exact ⟨_, (((t392.length : Int) != (t399.length : Int))), rq, H', ⟨by have := HJ3.out; first | omega | exact Nat.le_refl _⟩, ⟨rU HO_5.out⟩, ⟨by (with_reducible repeat (first | apply Kd.S_alloc | apply Kd.S_drewN | apply Kd.S_drew)); exact HO401.out⟩, ⟨bl⟩⟩
     ·rw [if_neg c19] at H
      have c19b0 := beq_eq_false_iff_ne.mpr c19
      have c19b1 := bne_iff_ne.mpr c19
      (first | rw [c19b0] | (simp only [i64_w, i32_w]; rw [c19b0]) | skip)
      have H' := Aside0.mk H
      clear H
      go_wp2
      go_meet
      case rel => exact ⟨_, (true), rq, H', ⟨by have := HJ3.out; first | omega | exact Nat.le_refl _⟩, ⟨rU HO_5.out⟩, ⟨by (with_reducible repeat (first | apply Kd.S_alloc | apply Kd.S_drewN | apply Kd.S_drew)); exact HO401.out⟩, ⟨bl⟩⟩
    case rest =>
     clear HC17
     try clear c1
     obtain ⟨kq, x52_16, rfl, HA, HJ16, HO_5, HO_7, HB⟩ := hcut
     cases kq with
     | zero => exact absurd HA.out (by simp [incunablelaw06_RunsModes.j1])
     | succ kj16 =>
      have H := HA.out
      clear HA
      simp only [incunablelaw06_RunsModes.j1] at H
      by_cases c22 : x52_16 = true
      ·subst c22
       have H1 : (some false) = some r := by rw [if_pos rfl] at H; exact H
       clear H
       have H := H1
       clear H1
       exact absurd ((Option.some.inj H).trans HR_.out) (by decide)
      ·replace c22 := Bool.eq_false_iff.mpr c22
       subst c22
       have H1 : (incunablelaw06_RunsModes.l0 kj16 t392 t399 (t399.length : Int) 0) = some r := by rw [if_neg (show ¬ (false = true) by decide)] at H; exact H
       clear H
       have H := H1
       clear H1
       have H' := Aside0.mk H
       clear H
       obtain ⟨Ao23, co23, eo23⟩ := Kd.S_slice HO_7.out
       subst eo23
       go_wp2
       go_loopg [55] kj16 (fun kq v55 w' => ∃ (x55_3 : Int), v55 = .int .i64 x55_3 ∧ Aside0 (incunablelaw06_RunsModes.l0 kq t392 t399 (t399.length : Int) x55_3 = some r) ∧ Aside0 (kq ≤ kj16) ∧ Aside0 (Kd.R Kd.string 9 w' w.heap.size (fun _ => True) v394 t392) ∧ Aside0 (Kd.S k37 37 w' w.heap.size (fun _ => True) (.slice Ao23 t399.length co23) t399) ∧ Aside0 (Below w.heap.size w w'))
       case atStart => exact ⟨(0), rq, H', ⟨Nat.le_refl _⟩, ⟨rU HO_5.out⟩, ⟨by (with_reducible repeat (first | apply Kd.S_alloc | apply Kd.S_drewN | apply Kd.S_drew)); exact HO_7.out⟩, ⟨bl⟩⟩
       case round =>
        clear H'
        try clear c1
        obtain ⟨x55_3, rfl, HA, HK3, HO_5, HO_53, HB⟩ := hrel
        cases gk with
        | zero => exact absurd HA.out (by simp [incunablelaw06_RunsModes.l0])
        | succ k3 =>
         have H := HA.out
         clear HA
         simp only [incunablelaw06_RunsModes.l0] at H
         by_cases c24 : x55_3 < (t399.length : Int)
         ·rw [if_pos c24] at H
          have c24b0 := decide_eq_true c24
          clear c24
          by_cases c25 : 0 ≤ x55_3
          ·rw [if_pos c25] at H
           have c25b0 := decide_eq_true c25
           clear c25
           by_cases c26 : x55_3 < (t399.length : Int)
           ·rw [if_pos c26] at H
            have c26b0 := decide_eq_true c26
            clear c26
            by_cases c27 : x55_3 < (t392.length : Int)
            ·rw [if_pos c27] at H
             have c27b0 := decide_eq_true c27
             clear c27
             by_cases c28 : (rdOf ByteArray.empty t392 x55_3).toList = ((rd_T37 t399 x55_3).f0).toList
             ·rw [if_pos c28] at H
              have c28b0 := beq_iff_eq.mpr c28
              have c28b1 := bne_eq_false_iff_eq.mpr c28
              clear c28
              have H' := Aside0.mk H
              clear H
              have p402 : 0 ≤ (x55_3 : Int) := dt
              have q402 : x55_3 < (t399.length : Int) := dt
              obtain ⟨ad402, A402_1, c402_1, e402, hx402_0, hx402_1, hx402_2, hx402_3, hl402_1, hi402_1⟩ := at_T37 (Kd.S_reads' HO_53.out).2.2 x55_3 p402 q402
              cases e402
              obtain ⟨ce402, hce402, hMe402, hcc402⟩ := Kd.S_get HO_53.out z37 x55_3 p402 (by first | exact q402 | exact dt | (have e_ := (Kd.S_reads' HO_53.out).1; omega))
              obtain ⟨ve402_1, rfl, ge402_1⟩ := k37_openM hMe402
              have hv402_1 := hcc402 1 _ rfl
              rw [add_field _ _ 1 (by omega)] at hv402_1
              replace hv402_1 := Option.some.inj (hv402_1.symm.trans hx402_1)
              rw [hv402_1] at ge402_1
              have HL402_1 := Aside0.mk (show Kd.R (Kd.int .u8) 5 _ _ _ _ ((rd_T37 t399 x55_3).f1) from ge402_1)
              clear hv402_1 ge402_1
              clear hcc402 hce402
              have HR402_1 := Aside0.mk hi402_1
              have HC402_1 := Aside0.mk hl402_1
              clear hi402_1 hl402_1
              replace p402 := eq_true p402
              replace q402 := eq_true q402
              go_wp2_with (first | ((with_reducible refine gd 9 rfl ?_); (try (refine gate_guard (by rfl) ?_; dsimp only)); refine bx 9 #[.string (⟨#[]⟩ : ByteArray), .slice none 0 0, .int .i64 0, .int .i64 0] 37 rfl rfl ?_; intro gb403 hg w29 hbox hb; have n_ := aC (Kd.R_below (rU HO_5.out) hb) (aC (Kd.S_below (Kd.S_elderB (by (with_reducible repeat (first | apply Kd.S_alloc | apply Kd.S_drewN | apply Kd.S_drew)); exact HO_53.out) gb403 (Nat.le_of_eq hg.symm)) hb) (aC (Kd.R_below (rU HL402_1.out) hb) (aC (Kd.C_below (by repeat (first | (with_reducible exact HR402_1.out) | (with_reducible refine Kd.C_alloc ?_ _) | (with_reducible refine Kd.C_drewN ?_ _) | (with_reducible refine Kd.C_drew ?_) | exact HR402_1.out)) hb) (aC (bs hb) (aC hbox (aC (gz hg) (aE (gz hg)))))))); clear HO_5 HO_53 HL402_1 HR402_1 HB; obtain ⟨HO_5, HO_53, HL402_1, HR402_1, HB, BK403, GW403, GE403⟩ := n_; clear hb hbox hg; obtain ⟨hcz30_0, hcz30_1, hcz30_2, hcz30_3, hfz30_0, hfz30_1, hfz30_2, hfz30_3⟩ := cz4f BK403.out; obtain ⟨Ao31, co31, eo31⟩ := Kd.R_slice HO_5.out; subst eo31; have p404 : 0 ≤ (x55_3 : Int) := dt; have q404 : x55_3 < (t392.length : Int) := dt; obtain ⟨ad404, e404, hx404_0⟩ := Kd.at_string (Kd.R_reads' HO_5.out).2.2 x55_3 p404 q404; cases e404; have hn404_0 : ad404.block ≠ gb403 := Kd.own_blk (Kd.R_ne HO_5.out BK403.out (by decide)); have hn404_1 : ad404.block ≠ gb403 := Kd.own_blk (Kd.R_ne HO_5.out BK403.out (by decide)); have hn404_2 : ad404.block ≠ gb403 := Kd.own_blk (Kd.R_ne HO_5.out BK403.out (by decide)); have hn404_3 : ad404.block ≠ gb403 := Kd.own_blk (Kd.R_ne HO_5.out BK403.out (by decide)); replace hx404_0 := (cell_far (p := ⟨gb403, 0, none⟩) (by first | (rw [add_block]; exact hn404_0) | (show (Addr.add _ _).block ≠ _; rw [add_block]; exact hn404_0) | exact hn404_0) (.string ((rd_T37 t399 x55_3).f0))).trans hx404_0; replace hx404_0 := (cell_far (p := ⟨gb403, 1, none⟩) (by first | (rw [add_block]; exact hn404_1) | (show (Addr.add _ _).block ≠ _; rw [add_block]; exact hn404_1) | exact hn404_1) (.slice A402_1 ((rd_T37 t399 x55_3).f1).length c402_1)).trans hx404_0; replace hx404_0 := (cell_far (p := ⟨gb403, 2, none⟩) (by first | (rw [add_block]; exact hn404_2) | (show (Addr.add _ _).block ≠ _; rw [add_block]; exact hn404_2) | exact hn404_2) (.int .i64 ((rd_T37 t399 x55_3).f2))).trans hx404_0; replace hx404_0 := (cell_far (p := ⟨gb403, 3, none⟩) (by first | (rw [add_block]; exact hn404_3) | (show (Addr.add _ _).block ≠ _; rw [add_block]; exact hn404_3) | exact hn404_3) (.int .i64 ((rd_T37 t399 x55_3).f3))).trans hx404_0; (try have hy404_0 := fun (n_ : Nat) => (show ((((((w29.drewN n_).setCell ⟨gb403, 0, none⟩ (.string ((rd_T37 t399 x55_3).f0))).setCell ⟨gb403, 1, none⟩ (.slice A402_1 ((rd_T37 t399 x55_3).f1).length c402_1)).setCell ⟨gb403, 2, none⟩ (.int .i64 ((rd_T37 t399 x55_3).f2))).setCell ⟨gb403, 3, none⟩ (.int .i64 ((rd_T37 t399 x55_3).f3)))).cell? _ = some _ from hx404_0)); clear hn404_0; clear hn404_1; clear hn404_2; clear hn404_3; replace p404 := eq_true p404; replace q404 := eq_true q404))
              repeat (go_quiet (first | ((with_reducible refine gd 9 rfl ?_); (try (refine gate_guard (by rfl) ?_; dsimp only)); refine bx 9 #[.string (⟨#[]⟩ : ByteArray), .slice none 0 0, .int .i64 0, .int .i64 0] 37 rfl rfl ?_; intro gb403 hg w29 hbox hb; have n_ := aC (Kd.R_below (rU HO_5.out) hb) (aC (Kd.S_below (Kd.S_elderB (by (with_reducible repeat (first | apply Kd.S_alloc | apply Kd.S_drewN | apply Kd.S_drew)); exact HO_53.out) gb403 (Nat.le_of_eq hg.symm)) hb) (aC (Kd.R_below (rU HL402_1.out) hb) (aC (Kd.C_below (by repeat (first | (with_reducible exact HR402_1.out) | (with_reducible refine Kd.C_alloc ?_ _) | (with_reducible refine Kd.C_drewN ?_ _) | (with_reducible refine Kd.C_drew ?_) | exact HR402_1.out)) hb) (aC (bs hb) (aC hbox (aC (gz hg) (aE (gz hg)))))))); clear HO_5 HO_53 HL402_1 HR402_1 HB; obtain ⟨HO_5, HO_53, HL402_1, HR402_1, HB, BK403, GW403, GE403⟩ := n_; clear hb hbox hg; obtain ⟨hcz30_0, hcz30_1, hcz30_2, hcz30_3, hfz30_0, hfz30_1, hfz30_2, hfz30_3⟩ := cz4f BK403.out; obtain ⟨Ao31, co31, eo31⟩ := Kd.R_slice HO_5.out; subst eo31; have p404 : 0 ≤ (x55_3 : Int) := dt; have q404 : x55_3 < (t392.length : Int) := dt; obtain ⟨ad404, e404, hx404_0⟩ := Kd.at_string (Kd.R_reads' HO_5.out).2.2 x55_3 p404 q404; cases e404; have hn404_0 : ad404.block ≠ gb403 := Kd.own_blk (Kd.R_ne HO_5.out BK403.out (by decide)); have hn404_1 : ad404.block ≠ gb403 := Kd.own_blk (Kd.R_ne HO_5.out BK403.out (by decide)); have hn404_2 : ad404.block ≠ gb403 := Kd.own_blk (Kd.R_ne HO_5.out BK403.out (by decide)); have hn404_3 : ad404.block ≠ gb403 := Kd.own_blk (Kd.R_ne HO_5.out BK403.out (by decide)); replace hx404_0 := (cell_far (p := ⟨gb403, 0, none⟩) (by first | (rw [add_block]; exact hn404_0) | (show (Addr.add _ _).block ≠ _; rw [add_block]; exact hn404_0) | exact hn404_0) (.string ((rd_T37 t399 x55_3).f0))).trans hx404_0; replace hx404_0 := (cell_far (p := ⟨gb403, 1, none⟩) (by first | (rw [add_block]; exact hn404_1) | (show (Addr.add _ _).block ≠ _; rw [add_block]; exact hn404_1) | exact hn404_1) (.slice A402_1 ((rd_T37 t399 x55_3).f1).length c402_1)).trans hx404_0; replace hx404_0 := (cell_far (p := ⟨gb403, 2, none⟩) (by first | (rw [add_block]; exact hn404_2) | (show (Addr.add _ _).block ≠ _; rw [add_block]; exact hn404_2) | exact hn404_2) (.int .i64 ((rd_T37 t399 x55_3).f2))).trans hx404_0; replace hx404_0 := (cell_far (p := ⟨gb403, 3, none⟩) (by first | (rw [add_block]; exact hn404_3) | (show (Addr.add _ _).block ≠ _; rw [add_block]; exact hn404_3) | exact hn404_3) (.int .i64 ((rd_T37 t399 x55_3).f3))).trans hx404_0; (try have hy404_0 := fun (n_ : Nat) => (show ((((((w29.drewN n_).setCell ⟨gb403, 0, none⟩ (.string ((rd_T37 t399 x55_3).f0))).setCell ⟨gb403, 1, none⟩ (.slice A402_1 ((rd_T37 t399 x55_3).f1).length c402_1)).setCell ⟨gb403, 2, none⟩ (.int .i64 ((rd_T37 t399 x55_3).f2))).setCell ⟨gb403, 3, none⟩ (.int .i64 ((rd_T37 t399 x55_3).f3)))).cell? _ = some _ from hx404_0)); clear hn404_0; clear hn404_1; clear hn404_2; clear hn404_3; replace p404 := eq_true p404; replace q404 := eq_true q404)); try go_wp2_with (first | ((with_reducible refine gd 9 rfl ?_); (try (refine gate_guard (by rfl) ?_; dsimp only)); refine bx 9 #[.string (⟨#[]⟩ : ByteArray), .slice none 0 0, .int .i64 0, .int .i64 0] 37 rfl rfl ?_; intro gb403 hg w29 hbox hb; have n_ := aC (Kd.R_below (rU HO_5.out) hb) (aC (Kd.S_below (Kd.S_elderB (by (with_reducible repeat (first | apply Kd.S_alloc | apply Kd.S_drewN | apply Kd.S_drew)); exact HO_53.out) gb403 (Nat.le_of_eq hg.symm)) hb) (aC (Kd.R_below (rU HL402_1.out) hb) (aC (Kd.C_below (by repeat (first | (with_reducible exact HR402_1.out) | (with_reducible refine Kd.C_alloc ?_ _) | (with_reducible refine Kd.C_drewN ?_ _) | (with_reducible refine Kd.C_drew ?_) | exact HR402_1.out)) hb) (aC (bs hb) (aC hbox (aC (gz hg) (aE (gz hg)))))))); clear HO_5 HO_53 HL402_1 HR402_1 HB; obtain ⟨HO_5, HO_53, HL402_1, HR402_1, HB, BK403, GW403, GE403⟩ := n_; clear hb hbox hg; obtain ⟨hcz30_0, hcz30_1, hcz30_2, hcz30_3, hfz30_0, hfz30_1, hfz30_2, hfz30_3⟩ := cz4f BK403.out; obtain ⟨Ao31, co31, eo31⟩ := Kd.R_slice HO_5.out; subst eo31; have p404 : 0 ≤ (x55_3 : Int) := dt; have q404 : x55_3 < (t392.length : Int) := dt; obtain ⟨ad404, e404, hx404_0⟩ := Kd.at_string (Kd.R_reads' HO_5.out).2.2 x55_3 p404 q404; cases e404; have hn404_0 : ad404.block ≠ gb403 := Kd.own_blk (Kd.R_ne HO_5.out BK403.out (by decide)); have hn404_1 : ad404.block ≠ gb403 := Kd.own_blk (Kd.R_ne HO_5.out BK403.out (by decide)); have hn404_2 : ad404.block ≠ gb403 := Kd.own_blk (Kd.R_ne HO_5.out BK403.out (by decide)); have hn404_3 : ad404.block ≠ gb403 := Kd.own_blk (Kd.R_ne HO_5.out BK403.out (by decide)); replace hx404_0 := (cell_far (p := ⟨gb403, 0, none⟩) (by first | (rw [add_block]; exact hn404_0) | (show (Addr.add _ _).block ≠ _; rw [add_block]; exact hn404_0) | exact hn404_0) (.string ((rd_T37 t399 x55_3).f0))).trans hx404_0; replace hx404_0 := (cell_far (p := ⟨gb403, 1, none⟩) (by first | (rw [add_block]; exact hn404_1) | (show (Addr.add _ _).block ≠ _; rw [add_block]; exact hn404_1) | exact hn404_1) (.slice A402_1 ((rd_T37 t399 x55_3).f1).length c402_1)).trans hx404_0; replace hx404_0 := (cell_far (p := ⟨gb403, 2, none⟩) (by first | (rw [add_block]; exact hn404_2) | (show (Addr.add _ _).block ≠ _; rw [add_block]; exact hn404_2) | exact hn404_2) (.int .i64 ((rd_T37 t399 x55_3).f2))).trans hx404_0; replace hx404_0 := (cell_far (p := ⟨gb403, 3, none⟩) (by first | (rw [add_block]; exact hn404_3) | (show (Addr.add _ _).block ≠ _; rw [add_block]; exact hn404_3) | exact hn404_3) (.int .i64 ((rd_T37 t399 x55_3).f3))).trans hx404_0; (try have hy404_0 := fun (n_ : Nat) => (show ((((((w29.drewN n_).setCell ⟨gb403, 0, none⟩ (.string ((rd_T37 t399 x55_3).f0))).setCell ⟨gb403, 1, none⟩ (.slice A402_1 ((rd_T37 t399 x55_3).f1).length c402_1)).setCell ⟨gb403, 2, none⟩ (.int .i64 ((rd_T37 t399 x55_3).f2))).setCell ⟨gb403, 3, none⟩ (.int .i64 ((rd_T37 t399 x55_3).f3)))).cell? _ = some _ from hx404_0)); clear hn404_0; clear hn404_1; clear hn404_2; clear hn404_3; replace p404 := eq_true p404; replace q404 := eq_true q404)))
              go_roundg k3
              case measure => have := HJ3.out; have := HJ16.out; have := HK3.out; omega
              case rel => exact ⟨(wrap64 (x55_3 + 1)), rq, H', ⟨by have := HJ3.out; have := HJ16.out; have := HK3.out; omega⟩, ⟨rU (Kd.R_mono (Kd.R_far (p := ⟨gb403, 3, none⟩) (Kd.R_far (p := ⟨gb403, 2, none⟩) (Kd.R_far (p := ⟨gb403, 1, none⟩) (Kd.R_far (p := ⟨gb403, 0, none⟩) (Kd.R_types HO_5.out BK403.out (by decide)) (fun _ hk => hk.2) (.string ((rd_T37 t399 x55_3).f0))) (fun _ hk => hk.2) (.slice A402_1 ((rd_T37 t399 x55_3).f1).length c402_1)) (fun _ hk => hk.2) (.int .i64 ((rd_T37 t399 x55_3).f2))) (fun _ hk => hk.2) (.int .i64 ((rd_T37 t399 x55_3).f3))) (fun _ hk => trivial))⟩, ⟨by (with_reducible repeat (first | apply Kd.S_alloc | apply Kd.S_drewN | apply Kd.S_drew)); exact Kd.S_mono (Kd.S_far (p := ⟨gb403, 3, none⟩) (Kd.S_far (p := ⟨gb403, 2, none⟩) (Kd.S_far (p := ⟨gb403, 1, none⟩) (Kd.S_far (p := ⟨gb403, 0, none⟩) (Kd.S_mono HO_53.out (fun k_ hk => (⟨hk, hk.2⟩ : _ ∧ k_ ≠ gb403))) (fun _ hk => hk.2) (.string ((rd_T37 t399 x55_3).f0))) (fun _ hk => hk.2) (.slice A402_1 ((rd_T37 t399 x55_3).f1).length c402_1)) (fun _ hk => hk.2) (.int .i64 ((rd_T37 t399 x55_3).f2))) (fun _ hk => hk.2) (.int .i64 ((rd_T37 t399 x55_3).f3))) (fun _ hk => trivial)⟩, ⟨bl⟩⟩
             ·rw [if_neg c28] at H
              have c28b0 := beq_eq_false_iff_ne.mpr c28
              have c28b1 := bne_iff_ne.mpr c28
              exact absurd ((Option.some.inj H).trans HR_.out) (by decide)
            ·rw [if_neg c27] at H
             exact absurd H (by simp)
           ·rw [if_neg c26] at H
            exact absurd H (by simp)
          ·rw [if_neg c25] at H
           exact absurd H (by simp)
         ·rw [if_neg c24] at H
          have c24b0 := decide_eq_false c24
          clear c24
          replace H := Option.bind_eq_some_iff.mp H
          obtain ⟨t405, A320, H⟩ := H
          replace H : (some t405) = some r := H
          have A32 := Aside0.mk A320
          clear A320
          obtain rfl := Option.some.inj H
          go_wp2_with (first | (go_at_call 13; (with_reducible refine (incunablelaw06_Awake.calls k3  t405 _ (TIs.on HTI) A32.out).mono ?_); rintro e w33 ⟨rfl, hb⟩; have n_ := aC (Kd.R_below (rU HO_5.out) hb) (aC (Kd.S_below (by (with_reducible repeat (first | apply Kd.S_alloc | apply Kd.S_drewN | apply Kd.S_drew)); exact HO_53.out) hb) (aE (bs hb))); clear HO_5 HO_53 HB; obtain ⟨HO_5, HO_53, HB⟩ := n_; (try clear hb)))
          go_ret
          exact ⟨re, bl⟩

/-- THE ONE PURE STATEMENT of incunablelaw06_RunsModes: yours. -/
def incunablelaw06_RunsModes.Pure : Prop := ∀ (l0 : List Int) (l1 : List Int), (l0.length ≤ 9223372036854775807 ∧ l0.length * 1 ≤ 140737488351232 ∧ ∀ y0_ ∈ l0, (Lit.int .u8 y0_).wf = true) → (l1.length ≤ 9223372036854775807 ∧ l1.length * 1 ≤ 140737488351232 ∧ ∀ y1_ ∈ l1, (Lit.int .u8 y1_).wf = true) → ∃ k, incunablelaw06_RunsModes.f k l0 l1 = some true
theorem incunablelaw06_RunsModes.walk (P : incunablelaw06_RunsModes.Pure) (A0 : Option Addr) (c0 : Nat) (l0 : List Int) (A1 : Option Addr) (c1 : Nat) (l1 : List Int) (w : World) (hT0 : TIs w) (hr0 : Kd.C (Kd.int .u8) w A0 l0.length l0) (hc0 : l0.length ≤ c0) (hr1 : Kd.C (Kd.int .u8) w A1 l1.length l1) (hc1 : l1.length ≤ c1) (g0 : l0.length ≤ 9223372036854775807 ∧ l0.length * 1 ≤ 140737488351232 ∧ ∀ y0_ ∈ l0, (Lit.int .u8 y0_).wf = true) (g1 : l1.length ≤ 9223372036854775807 ∧ l1.length * 1 ≤ 140737488351232 ∧ ∀ y1_ ∈ l1, (Lit.int .u8 y1_).wf = true) :
  Calls Tryd.prog 4 #[.slice A0 l0.length c0, .slice A1 l1.length c1] w fun e w' => e = .returned (.bool true) ∧ Below w.heap.size w w' := by
 obtain ⟨k, h⟩ := P l0 l1 g0 g1
 refine (incunablelaw06_RunsModes.calls k A0 c0 l0 A1 c1 l1 true w hT0 hr0 hc0 hr1 hc1 h rfl).mono ?_
 rintro e w' ⟨rfl, hd⟩
 exact ⟨rfl, hd⟩

end Go.Proofs.YtknclbodinfbeaaDoor.PRunsModes
