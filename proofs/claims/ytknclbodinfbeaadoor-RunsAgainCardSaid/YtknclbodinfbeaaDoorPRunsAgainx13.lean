-- Written by a program of this session (wip/tools/myprint.py) over the kit's print. Not trusted: Lean checks it.
import Derived.Test.YtknclbodinfbeaaDoorPRunsAgainx0
import Derived.Test.YtknclbodinfbeaaDoorPRunsAgainx6
import Derived.Test.YtknclbodinfbeaaDoorPRunsAgainx8
import Derived.Test.YtknclbodinfbeaaDoorPRunsAgainx12
namespace Go.Proofs.YtknclbodinfbeaaDoor.PRunsAgain
open Go.RowKit Go.Proofs.YtknclbodinfbeaaDoorW.PrintWords Go.Proofs.YtknclbodinfbeaaDoorW.PrintLast Go.Proofs.YtknclbodinfbeaaDoorW.PrintMore
attribute [local go_sem] max2_int min2_int max_two min_two max_three min_three max_four min_four   -- for this text's walks alone
set_option linter.unusedVariables false
set_option linter.unusedSimpArgs false

/-! ### incunablelaw06_RunsAgain: function 10 -/
mutual
def incunablelaw06_RunsAgain.j0 : Nat → List Int → Int → List Int → Bool → Option (Bool)
 | 0, _, _, _, _ => none
 | k + 1, x0, x8, x10, x41 => if x41 = true then (some false) else (incunablelaw06_RunsAgain.l0 k x0 x10 x8 0)
def incunablelaw06_RunsAgain.l0 : Nat → List Int → List Int → Int → Int → Option (Bool)
 | 0, _, _, _, _ => none
 | k + 1, x0, x10, x42, x43 => if x43 < x42 then ((incunableref04_BitAt.f x0 x43).bind fun bt460 => ((incunableref04_BitAt.f x10 x43).bind fun bt462 => (if bt462.2 = true then (if bt460.1 = bt462.1 then (incunablelaw06_RunsAgain.l0 k x0 x10 x42 (wrap64 (x43 + 1))) else (some false)) else (some false)))) else ((incunablelaw06_Awake.f k).bind fun t459 => (some t459))
end
def incunablelaw06_RunsAgain.f (k : Nat) (l0 : List Int) (a1 : Int) (a2 : Int) : Option (Bool) := (runs_GetOne.f k l0 a1 a2).bind fun bt446 => (if bt446.2.2.2.2 = 0 then ((runs_One.f k bt446.1 bt446.2.1 bt446.2.2.1).bind fun bt455 => (if bt455.2 = 0 then (incunablelaw06_RunsAgain.j0 k l0 bt446.2.2.2.1 bt455.1 ((bt455.1.length : Int) != (wrap64 (Int.tdiv (wrap64 (bt446.2.2.2.1 + 7)) 8)))) else (incunablelaw06_RunsAgain.j0 k l0 bt446.2.2.2.1 bt455.1 true))) else ((incunablelaw06_Awake.f k).bind fun t454 => (some t454)))
theorem incunablelaw06_RunsAgain.mono_l : ∀ k, (∀ y0 y1 y2 y3, LeO (incunablelaw06_RunsAgain.j0 k y0 y1 y2 y3) (incunablelaw06_RunsAgain.j0 (k + 1) y0 y1 y2 y3)) ∧ (∀ y0 y1 y2 y3, LeO (incunablelaw06_RunsAgain.l0 k y0 y1 y2 y3) (incunablelaw06_RunsAgain.l0 (k + 1) y0 y1 y2 y3))
 | 0 => ⟨fun _ _ _ _ r h => by simp [incunablelaw06_RunsAgain.j0] at h, fun _ _ _ _ r h => by simp [incunablelaw06_RunsAgain.l0] at h⟩
 | k + 1 => by
  obtain ⟨ih0, ih1⟩ := incunablelaw06_RunsAgain.mono_l k
  refine ⟨?_, ?_⟩
  ·intro y0 y1 y2 y3
   unfold incunablelaw06_RunsAgain.j0
   repeat' first
   | (with_reducible exact ih0 _ _ _ _)
   | (with_reducible exact ih1 _ _ _ _)
   | (with_reducible exact incunablelaw06_Awake.mono _)
   | (with_reducible exact runs_GetOne.mono _ _ _ _)
   | (with_reducible exact runs_One.mono _ _ _ _)
   | (with_reducible first | exact LeO.refl _ | exact LeO.none _ | refine LeO.ite ?_ ?_ | refine LeO.bind ?_ (fun _ => ?_))
   | exact ih0 _ _ _ _
   | exact ih1 _ _ _ _
   | exact incunablelaw06_Awake.mono _
   | exact runs_GetOne.mono _ _ _ _
   | exact runs_One.mono _ _ _ _
   | exact LeO.none _ | refine LeO.ite ?_ ?_ | refine LeO.bind ?_ (fun _ => ?_)
  ·intro y0 y1 y2 y3
   unfold incunablelaw06_RunsAgain.l0
   repeat' first
   | (with_reducible exact ih0 _ _ _ _)
   | (with_reducible exact ih1 _ _ _ _)
   | (with_reducible exact incunablelaw06_Awake.mono _)
   | (with_reducible exact runs_GetOne.mono _ _ _ _)
   | (with_reducible exact runs_One.mono _ _ _ _)
   | (with_reducible first | exact LeO.refl _ | exact LeO.none _ | refine LeO.ite ?_ ?_ | refine LeO.bind ?_ (fun _ => ?_))
   | exact ih0 _ _ _ _
   | exact ih1 _ _ _ _
   | exact incunablelaw06_Awake.mono _
   | exact runs_GetOne.mono _ _ _ _
   | exact runs_One.mono _ _ _ _
   | exact LeO.none _ | refine LeO.ite ?_ ?_ | refine LeO.bind ?_ (fun _ => ?_)
theorem incunablelaw06_RunsAgain.mono : ∀ a0 a1 a2 k, LeO (incunablelaw06_RunsAgain.f k a0 a1 a2) (incunablelaw06_RunsAgain.f (k + 1) a0 a1 a2) := by
 intro a0 a1 a2 k
 obtain ⟨ih0, ih1⟩ := incunablelaw06_RunsAgain.mono_l k
 unfold incunablelaw06_RunsAgain.f
 repeat' first
   | (with_reducible exact ih0 _ _ _ _)
   | (with_reducible exact ih1 _ _ _ _)
   | (with_reducible exact incunablelaw06_Awake.mono _)
   | (with_reducible exact runs_GetOne.mono _ _ _ _)
   | (with_reducible exact runs_One.mono _ _ _ _)
   | (with_reducible first | exact LeO.refl _ | exact LeO.none _ | refine LeO.ite ?_ ?_ | refine LeO.bind ?_ (fun _ => ?_))
   | exact ih0 _ _ _ _
   | exact ih1 _ _ _ _
   | exact incunablelaw06_Awake.mono _
   | exact runs_GetOne.mono _ _ _ _
   | exact runs_One.mono _ _ _ _
   | exact LeO.none _ | refine LeO.ite ?_ ?_ | refine LeO.bind ?_ (fun _ => ?_)
set_option maxHeartbeats 8000000 in
set_option maxRecDepth 100000 in
theorem incunablelaw06_RunsAgain.calls (k : Nat) (A0 : Option Addr) (c0 : Nat) (l0 : List Int) (a1 : Int) (a2 : Int) (r : Bool) (w : World) (hT0 : TIs w) (hr0 : Kd.C (Kd.int .u8) w A0 l0.length l0) (hc0 : l0.length ≤ c0) (h : incunablelaw06_RunsAgain.f k l0 a1 a2 = some r) (hr_ : r = true) :
  Calls Tryd.prog 10 #[.slice A0 l0.length c0, .int .i64 a1, .int .i64 a2] w fun e w' => e = .returned (.bool r) ∧ Below w.heap.size w w' := by
 have HTI := Aside0.mk hT0
 clear hT0
 have HR_ := Aside0.mk hr_
 clear hr_
 have hu48 := Tryd.underlying48
 have HR0 := Aside0.mk hr0
 have HC0 := Aside0.mk hc0
 clear hr0 hc0
 have HB := Aside0.mk (Below.refl w.heap.size w)
 have H : ((runs_GetOne.f k l0 a1 a2).bind fun bt446 => (if bt446.2.2.2.2 = 0 then ((runs_One.f k bt446.1 bt446.2.1 bt446.2.2.1).bind fun bt455 => (if bt455.2 = 0 then (incunablelaw06_RunsAgain.j0 k l0 bt446.2.2.2.1 bt455.1 ((bt455.1.length : Int) != (wrap64 (Int.tdiv (wrap64 (bt446.2.2.2.1 + 7)) 8)))) else (incunablelaw06_RunsAgain.j0 k l0 bt446.2.2.2.1 bt455.1 true))) else ((incunablelaw06_Awake.f k).bind fun t454 => (some t454)))) = some r := h
 clear h
 replace H := Option.bind_eq_some_iff.mp H
 obtain ⟨⟨t446, t447, t448, t451, t452⟩, A40, H⟩ := H
 replace H : (if t452 = 0 then ((runs_One.f k t446 t447 t448).bind fun bt455 => (if bt455.2 = 0 then (incunablelaw06_RunsAgain.j0 k l0 t451 bt455.1 ((bt455.1.length : Int) != (wrap64 (Int.tdiv (wrap64 (t451 + 7)) 8)))) else (incunablelaw06_RunsAgain.j0 k l0 t451 bt455.1 true))) else ((incunablelaw06_Awake.f k).bind fun t454 => (some t454))) = some r := H
 have A4 := Aside0.mk A40
 clear A40
 by_cases c5 : t452 = 0
 ·rw [if_pos c5] at H
  have c5b0 := beq_iff_eq.mpr c5
  have c5b1 := bne_eq_false_iff_eq.mpr c5
  clear c5
  replace H := Option.bind_eq_some_iff.mp H
  obtain ⟨⟨t455, t458⟩, A60, H⟩ := H
  replace H : (if t458 = 0 then (incunablelaw06_RunsAgain.j0 k l0 t451 t455 ((t455.length : Int) != (wrap64 (Int.tdiv (wrap64 (t451 + 7)) 8)))) else (incunablelaw06_RunsAgain.j0 k l0 t451 t455 true)) = some r := H
  have A6 := Aside0.mk A60
  clear A60
  have HC7 := Aside0.mk H
  clear H
  go_enter Tryd.func10, Tryd.ntmps10
  go_upto_region 5 with (first | ((with_reducible refine gf 30 rfl ?_); refine gL (some 20) rfl rfl Tryd.func30 rfl #[.slice A0 l0.length c0, .int .i64 a1, .int .i64 a2] rfl ?_; (with_reducible refine (runs_GetOne.calls k _ _ l0 a1 a2 t446 t447 t448 t451 t452 _ ?side1 ?side2 A4.out).mono ?_); (case side1 => exact cU HR0.out); (case side2 => exact HC0.out); rintro e w8 ⟨v449, rfl, ho0, hb⟩; refine ⟨_, rfl, ?_⟩; have n_ := aC (Kd.R_lower ho0 bz) (aE (bs hb)); clear HB; obtain ⟨HO450, HB⟩ := n_; (try clear hb); (try clear ho0)) | ((with_reducible refine gd 7 rfl ?_); (try (refine gate_guard (by rfl) ?_; dsimp only)); refine bx 7 #[.int .i64 0, .int .i64 0, .slice none 0 0] 48 rfl rfl ?_; intro gb453 hg w9 hbox hb; have n_ := aC (Kd.R_below (rU HO450.out) hb) (aC (bs hb) (aC hbox (aC (gz hg) (aE (gz hg))))); clear HO450 HB; obtain ⟨HO450, HB, BK453, GW453, GE453⟩ := n_; clear hb hbox hg; obtain ⟨hcz10_0, hcz10_1, hcz10_2, hfz10_0, hfz10_1, hfz10_2⟩ := cz3f BK453.out; obtain ⟨Ao11, co11, eo11⟩ := Kd.R_slice HO450.out; subst eo11) | ((with_reducible refine gf 24 rfl ?_); refine gL (some 29) rfl rfl Tryd.func24 rfl #[.agg #[.int .i64 t446, .int .i64 t447, .slice Ao11 t448.length co11]] rfl ?_; (with_reducible refine (runs_One.calls k t446 t447 _ _ t448 t455 t458 _ ?side1 ?side2 A6.out).mono ?_); (case side1 => refine (Kd.R_reads' (e := 5) (base := w.heap.size) (ok := fun k_ => True) (n := t448.length) (c := co11) ?_).2.2; exact (rU (Kd.R_mono (Kd.R_far (p := ⟨gb453, 2, none⟩) (Kd.R_far (p := ⟨gb453, 1, none⟩) (Kd.R_far (p := ⟨gb453, 0, none⟩) (Kd.R_types HO450.out BK453.out (by decide)) (fun _ hk => hk.2) (.int .i64 t446)) (fun _ hk => hk.2) (.int .i64 t447)) (fun _ hk => hk.2) (.slice Ao11 t448.length co11)) (fun _ h_ => h_.1)))); (case side2 => exact (Kd.R_reads' HO450.out).2.1); rintro e w12 ⟨v456, rfl, ho0, hb⟩; refine ⟨_, rfl, ?_⟩; have n_ := aC (Kd.R_elder' (rU (Kd.R_mono (Kd.R_far (p := ⟨gb453, 2, none⟩) (Kd.R_far (p := ⟨gb453, 1, none⟩) (Kd.R_far (p := ⟨gb453, 0, none⟩) (Kd.R_types HO450.out BK453.out (by decide)) (fun _ hk => hk.2) (.int .i64 t446)) (fun _ hk => hk.2) (.int .i64 t447)) (fun _ hk => hk.2) (.slice Ao11 t448.length co11)) (fun _ h_ => h_.1))) (Kd.R_base ho0) hb) (aC (Kd.R_lower (Kd.R_new' ho0 (Kd.R_lt (rU (Kd.R_mono (Kd.R_far (p := ⟨gb453, 2, none⟩) (Kd.R_far (p := ⟨gb453, 1, none⟩) (Kd.R_far (p := ⟨gb453, 0, none⟩) (Kd.R_types HO450.out BK453.out (by decide)) (fun _ hk => hk.2) (.int .i64 t446)) (fun _ hk => hk.2) (.int .i64 t447)) (fun _ hk => hk.2) (.slice Ao11 t448.length co11)) (fun _ h_ => h_.1))))) bz) (aC (blk_below (g := gb453) (o := .cells #[.int .i64 t446, .int .i64 t447, .slice Ao11 t448.length co11] 48 (0, 0)) (by (with_reducible repeat (first | refine blk_drewN ?_ _ | refine blk_drew ?_ | refine blk_alloc ?_ _)); refine blk_put (cs := #[.int .i64 t446, .int .i64 t447, .slice none 0 0]) ?_ 2 _ rfl; (with_reducible repeat (first | refine blk_drewN ?_ _ | refine blk_drew ?_ | refine blk_alloc ?_ _)); refine blk_put (cs := #[.int .i64 t446, .int .i64 0, .slice none 0 0]) ?_ 1 _ rfl; (with_reducible repeat (first | refine blk_drewN ?_ _ | refine blk_drew ?_ | refine blk_alloc ?_ _)); refine blk_put (cs := #[.int .i64 0, .int .i64 0, .slice none 0 0]) ?_ 0 _ rfl; (with_reducible repeat (first | refine blk_drewN ?_ _ | refine blk_drew ?_ | refine blk_alloc ?_ _)); exact BK453.out) hb) (aE (bs hb)))); clear HO450 BK453 HB; obtain ⟨HO450, HO457, BK453, HB⟩ := n_; (try clear hb); (try clear ho0)))
  (try simp only [Act.put, List.setIfInBounds_toArray, List.set_cons_zero, List.set_cons_succ])
  go_cut [41] (fun v41 wc => ∃ (kq : Nat) (x41_6 : Bool), v41 = .bool x41_6 ∧ Aside0 (incunablelaw06_RunsAgain.j0 kq l0 t451 t455 x41_6 = some r) ∧ Aside0 (kq ≤ k) ∧ Aside0 (Kd.R (Kd.int .u8) 5 wc w.heap.size (fun k_ => some k_ ≠ ((.slice Ao11 t448.length co11) : Value).ownBlock) v456 t455) ∧ Aside0 (Kd.R (Kd.int .u8) 5 wc w.heap.size (fun k_ => some k_ ≠ (v456 : Value).ownBlock) (.slice Ao11 t448.length co11) t448) ∧ Aside0 (wc.heap[gb453]? = some (.cells #[.int .i64 t446, .int .i64 t447, (.slice Ao11 t448.length co11)] 48 (0, 0))) ∧ Aside0 (Below w.heap.size w wc))
  case first =>
   have H := HC7.out
   clear HC7
   by_cases c13 : t458 = 0
   ·rw [if_pos c13] at H
    have c13b0 := beq_iff_eq.mpr c13
    have c13b1 := bne_eq_false_iff_eq.mpr c13
    clear c13
    (first | rw [c13b0] | (simp only [i64_w, i32_w]; rw [c13b0]) | skip)
    have H' := Aside0.mk H
    clear H
    obtain ⟨Ao14, co14, eo14⟩ := Kd.R_slice HO457.out
    subst eo14
    go_wp2
    go_meet
    case rel => exact ⟨_, (((t455.length : Int) != (wrap64 (Int.tdiv (wrap64 (t451 + 7)) 8)))), rq, H', ⟨by first | omega | exact Nat.le_refl _⟩, ⟨rU (Kd.R_mono HO457.out (fun _ hk => hk.2))⟩, ⟨rU (Kd.R_mono HO450.out (fun _ hk => hk.2))⟩, ⟨bU BK453.out⟩, ⟨bl⟩⟩
   ·rw [if_neg c13] at H
    have c13b0 := beq_eq_false_iff_ne.mpr c13
    have c13b1 := bne_iff_ne.mpr c13
    (first | rw [c13b0] | (simp only [i64_w, i32_w]; rw [c13b0]) | skip)
    have H' := Aside0.mk H
    clear H
    go_wp2
    go_meet
    case rel => exact ⟨_, (true), rq, H', ⟨by first | omega | exact Nat.le_refl _⟩, ⟨rU (Kd.R_mono HO457.out (fun _ hk => hk.2))⟩, ⟨rU (Kd.R_mono HO450.out (fun _ hk => hk.2))⟩, ⟨bU BK453.out⟩, ⟨bl⟩⟩
  case rest =>
   clear HC7
   obtain ⟨kq, x41_6, rfl, HA, HJ6, HO_10, HO_454002, BK453, HB⟩ := hcut
   cases kq with
   | zero => exact absurd HA.out (by simp [incunablelaw06_RunsAgain.j0])
   | succ kj6 =>
    have H := HA.out
    clear HA
    simp only [incunablelaw06_RunsAgain.j0] at H
    by_cases c15 : x41_6 = true
    ·subst c15
     have H1 : (some false) = some r := by rw [if_pos rfl] at H; exact H
     clear H
     have H := H1
     clear H1
     exact absurd ((Option.some.inj H).trans HR_.out) (by decide)
    ·replace c15 := Bool.eq_false_iff.mpr c15
     subst c15
     have H1 : (incunablelaw06_RunsAgain.l0 kj6 l0 t455 t451 0) = some r := by rw [if_neg (show ¬ (false = true) by decide)] at H; exact H
     clear H
     have H := H1
     clear H1
     have H' := Aside0.mk H
     clear H
     go_wp2
     go_loopg [43] kj6 (fun kq v43 w' => ∃ (x43_2 : Int), v43 = .int .i64 x43_2 ∧ Aside0 (incunablelaw06_RunsAgain.l0 kq l0 t455 t451 x43_2 = some r) ∧ Aside0 (kq ≤ kj6) ∧ Aside0 (Kd.R (Kd.int .u8) 5 w' w.heap.size (fun k_ => some k_ ≠ ((.slice Ao11 t448.length co11) : Value).ownBlock) v456 t455) ∧ Aside0 (Kd.R (Kd.int .u8) 5 w' w.heap.size (fun k_ => some k_ ≠ (v456 : Value).ownBlock) (.slice Ao11 t448.length co11) t448) ∧ Aside0 (w'.heap[gb453]? = some (.cells #[.int .i64 t446, .int .i64 t447, (.slice Ao11 t448.length co11)] 48 (0, 0))) ∧ Aside0 (Below w.heap.size w w'))
     case atStart => exact ⟨(0), rq, H', ⟨Nat.le_refl _⟩, ⟨rU HO_10.out⟩, ⟨rU HO_454002.out⟩, ⟨bU BK453.out⟩, ⟨bl⟩⟩
     case round =>
      clear H'
      obtain ⟨x43_2, rfl, HA, HK2, HO_10, HO_454002, BK453, HB⟩ := hrel
      cases gk with
      | zero => exact absurd HA.out (by simp [incunablelaw06_RunsAgain.l0])
      | succ k2 =>
       have H := HA.out
       clear HA
       simp only [incunablelaw06_RunsAgain.l0] at H
       by_cases c16 : x43_2 < t451
       ·rw [if_pos c16] at H
        have c16b0 := decide_eq_true c16
        clear c16
        replace H := Option.bind_eq_some_iff.mp H
        obtain ⟨⟨t460, t461⟩, A170, H⟩ := H
        replace H : ((incunableref04_BitAt.f t455 x43_2).bind fun bt462 => (if bt462.2 = true then (if t460 = bt462.1 then (incunablelaw06_RunsAgain.l0 k2 l0 t455 t451 (wrap64 (x43_2 + 1))) else (some false)) else (some false))) = some r := H
        have A17 := Aside0.mk A170
        clear A170
        replace H := Option.bind_eq_some_iff.mp H
        obtain ⟨⟨t462, t463⟩, A180, H⟩ := H
        replace H : (if t463 = true then (if t460 = t462 then (incunablelaw06_RunsAgain.l0 k2 l0 t455 t451 (wrap64 (x43_2 + 1))) else (some false)) else (some false)) = some r := H
        have A18 := Aside0.mk A180
        clear A180
        by_cases c19 : t463 = true
        ·subst c19
         have H1 : (if t460 = t462 then (incunablelaw06_RunsAgain.l0 k2 l0 t455 t451 (wrap64 (x43_2 + 1))) else (some false)) = some r := by rw [if_pos rfl] at H; exact H
         clear H
         have H := H1
         clear H1
         by_cases c20 : t460 = t462
         ·rw [if_pos c20] at H
          have c20b0 := beq_iff_eq.mpr c20
          have c20b1 := bne_eq_false_iff_eq.mpr c20
          clear c20
          have H' := Aside0.mk H
          clear H
          go_wp2_with (first | ((with_reducible refine gf 35 rfl ?_); refine gL (some 49) rfl rfl Tryd.func35 rfl #[.slice A0 l0.length c0, .int .i64 x43_2] rfl ?_; (with_reducible refine (incunableref04_BitAt.calls _ _ l0 x43_2 t460 t461 _ ?side1 ?side2 A17.out).mono ?_); (case side1 => exact cU (Kd.C_below HR0.out HB.out)); (case side2 => exact HC0.out); rintro e w' ⟨rfl, ⟨nd, rfl⟩⟩; refine ⟨_, rfl, ?_⟩; obtain ⟨Ao21, co21, eo21⟩ := Kd.R_slice HO_10.out; subst eo21) | ((with_reducible refine gf 35 rfl ?_); refine gL (some 55) rfl rfl Tryd.func35 rfl #[.slice Ao21 t455.length co21, .int .i64 x43_2] rfl ?_; (with_reducible refine (incunableref04_BitAt.calls _ _ t455 x43_2 t462 true _ ?side1 ?side2 A18.out).mono ?_); (case side1 => exact cU (Kd.R_reads' HO_10.out).2.2); (case side2 => exact (Kd.R_reads' HO_10.out).2.1); rintro e w' ⟨rfl, ⟨nd, rfl⟩⟩; refine ⟨_, rfl, ?_⟩))
          go_roundg k2
          case measure => have := HJ6.out; have := HK2.out; omega
          case rel => exact ⟨(wrap64 (x43_2 + 1)), rq, H', ⟨by have := HJ6.out; have := HK2.out; omega⟩, ⟨rU HO_10.out⟩, ⟨rU HO_454002.out⟩, ⟨bU BK453.out⟩, ⟨bl⟩⟩
         ·rw [if_neg c20] at H
          have c20b0 := beq_eq_false_iff_ne.mpr c20
          have c20b1 := bne_iff_ne.mpr c20
          exact absurd ((Option.some.inj H).trans HR_.out) (by decide)
        ·replace c19 := Bool.eq_false_iff.mpr c19
         subst c19
         have H1 : (some false) = some r := by rw [if_neg (show ¬ (false = true) by decide)] at H; exact H
         clear H
         have H := H1
         clear H1
         exact absurd ((Option.some.inj H).trans HR_.out) (by decide)
       ·rw [if_neg c16] at H
        have c16b0 := decide_eq_false c16
        clear c16
        replace H := Option.bind_eq_some_iff.mp H
        obtain ⟨t459, A220, H⟩ := H
        replace H : (some t459) = some r := H
        have A22 := Aside0.mk A220
        clear A220
        obtain rfl := Option.some.inj H
        go_wp2_with (first | ((with_reducible refine gf 13 rfl ?_); refine gL (some 66) rfl rfl Tryd.func13 rfl #[] rfl ?_; (with_reducible refine (incunablelaw06_Awake.calls k2  t459 _ (TIs.on HTI) A22.out).mono ?_); rintro e w23 ⟨rfl, hb⟩; refine ⟨_, rfl, ?_⟩; have n_ := aC (Kd.R_below (rU HO_10.out) hb) (aC (Kd.R_below (rU HO_454002.out) hb) (aC (blk_below (bU BK453.out) hb) (aE (bs hb)))); clear HO_10 HO_454002 BK453 HB; obtain ⟨HO_10, HO_454002, BK453, HB⟩ := n_; (try clear hb)))
        go_ret
        exact ⟨re, bl⟩
 ·rw [if_neg c5] at H
  have c5b0 := beq_eq_false_iff_ne.mpr c5
  have c5b1 := bne_iff_ne.mpr c5
  replace H := Option.bind_eq_some_iff.mp H
  obtain ⟨t454, A240, H⟩ := H
  replace H : (some t454) = some r := H
  have A24 := Aside0.mk A240
  clear A240
  obtain rfl := Option.some.inj H
  go_enter Tryd.func10, Tryd.ntmps10
  go_wp2_with (first | ((with_reducible refine gf 30 rfl ?_); refine gL (some 20) rfl rfl Tryd.func30 rfl #[.slice A0 l0.length c0, .int .i64 a1, .int .i64 a2] rfl ?_; (with_reducible refine (runs_GetOne.calls k _ _ l0 a1 a2 t446 t447 t448 t451 t452 _ ?side1 ?side2 A4.out).mono ?_); (case side1 => exact cU HR0.out); (case side2 => exact HC0.out); rintro e w25 ⟨v449, rfl, ho0, hb⟩; refine ⟨_, rfl, ?_⟩; have n_ := aC (Kd.R_lower ho0 bz) (aE (bs hb)); clear HB; obtain ⟨HO450, HB⟩ := n_; (try clear hb); (try clear ho0)) | ((with_reducible refine gd 7 rfl ?_); (try (refine gate_guard (by rfl) ?_; dsimp only)); refine bx 7 #[.int .i64 0, .int .i64 0, .slice none 0 0] 48 rfl rfl ?_; intro gb453 hg w26 hbox hb; have n_ := aC (Kd.R_below (rU HO450.out) hb) (aC (bs hb) (aC hbox (aC (gz hg) (aE (gz hg))))); clear HO450 HB; obtain ⟨HO450, HB, BK453, GW453, GE453⟩ := n_; clear hb hbox hg; obtain ⟨hcz27_0, hcz27_1, hcz27_2, hfz27_0, hfz27_1, hfz27_2⟩ := cz3f BK453.out; obtain ⟨Ao28, co28, eo28⟩ := Kd.R_slice HO450.out; subst eo28) | ((with_reducible refine gf 13 rfl ?_); refine gL (some 26) rfl rfl Tryd.func13 rfl #[] rfl ?_; (with_reducible refine (incunablelaw06_Awake.calls k  t454 _ (TIs.on HTI) A24.out).mono ?_); rintro e w29 ⟨rfl, hb⟩; refine ⟨_, rfl, ?_⟩; have n_ := aC (Kd.R_below (rU (Kd.R_mono (Kd.R_far (p := ⟨gb453, 2, none⟩) (Kd.R_far (p := ⟨gb453, 1, none⟩) (Kd.R_far (p := ⟨gb453, 0, none⟩) (Kd.R_types HO450.out BK453.out (by decide)) (fun _ hk => hk.2) (.int .i64 t446)) (fun _ hk => hk.2) (.int .i64 t447)) (fun _ hk => hk.2) (.slice Ao28 t448.length co28)) (fun _ h_ => h_.1))) hb) (aC (blk_below (g := gb453) (o := .cells #[.int .i64 t446, .int .i64 t447, .slice Ao28 t448.length co28] 48 (0, 0)) (by (with_reducible repeat (first | refine blk_drewN ?_ _ | refine blk_drew ?_ | refine blk_alloc ?_ _)); refine blk_put (cs := #[.int .i64 t446, .int .i64 t447, .slice none 0 0]) ?_ 2 _ rfl; (with_reducible repeat (first | refine blk_drewN ?_ _ | refine blk_drew ?_ | refine blk_alloc ?_ _)); refine blk_put (cs := #[.int .i64 t446, .int .i64 0, .slice none 0 0]) ?_ 1 _ rfl; (with_reducible repeat (first | refine blk_drewN ?_ _ | refine blk_drew ?_ | refine blk_alloc ?_ _)); refine blk_put (cs := #[.int .i64 0, .int .i64 0, .slice none 0 0]) ?_ 0 _ rfl; (with_reducible repeat (first | refine blk_drewN ?_ _ | refine blk_drew ?_ | refine blk_alloc ?_ _)); exact BK453.out) hb) (aE (bs hb))); clear HO450 BK453 HB; obtain ⟨HO450, BK453, HB⟩ := n_; (try clear hb)))
  go_ret
  exact ⟨re, bl⟩

/-- THE ONE PURE STATEMENT of incunablelaw06_RunsAgain: yours. -/
def incunablelaw06_RunsAgain.Pure : Prop := ∀ (l0 : List Int) (a1 : Int) (a2 : Int), (l0.length ≤ 9223372036854775807 ∧ l0.length * 1 ≤ 140737488351232 ∧ ∀ y0_ ∈ l0, (Lit.int .u8 y0_).wf = true) → ((Lit.int .i64 a1).wf = true) → ((Lit.int .i64 a2).wf = true) → ∃ k, incunablelaw06_RunsAgain.f k l0 a1 a2 = some true
theorem incunablelaw06_RunsAgain.walk (P : incunablelaw06_RunsAgain.Pure) (A0 : Option Addr) (c0 : Nat) (l0 : List Int) (a1 : Int) (a2 : Int) (w : World) (hT0 : TIs w) (hr0 : Kd.C (Kd.int .u8) w A0 l0.length l0) (hc0 : l0.length ≤ c0) (g0 : l0.length ≤ 9223372036854775807 ∧ l0.length * 1 ≤ 140737488351232 ∧ ∀ y0_ ∈ l0, (Lit.int .u8 y0_).wf = true) (g1 : (Lit.int .i64 a1).wf = true) (g2 : (Lit.int .i64 a2).wf = true) :
  Calls Tryd.prog 10 #[.slice A0 l0.length c0, .int .i64 a1, .int .i64 a2] w fun e w' => e = .returned (.bool true) ∧ Below w.heap.size w w' := by
 obtain ⟨k, h⟩ := P l0 a1 a2 g0 g1 g2
 refine (incunablelaw06_RunsAgain.calls k A0 c0 l0 a1 a2 true w hT0 hr0 hc0 h rfl).mono ?_
 rintro e w' ⟨rfl, hd⟩
 exact ⟨rfl, hd⟩

end Go.Proofs.YtknclbodinfbeaaDoor.PRunsAgain
