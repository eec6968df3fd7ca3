-- Written by a program of this session (wip/tools/myprint.py) over the kit's print. Not trusted: Lean checks it.
import Derived.Test.YtknclbodinfbeaaDoorPRunsCodesx0
import Derived.Test.YtknclbodinfbeaaDoorPRunsCodesx4
import Derived.Test.YtknclbodinfbeaaDoorPRunsCodesx6
import Derived.Test.YtknclbodinfbeaaDoorPRunsCodesx8
import Derived.Test.YtknclbodinfbeaaDoorPRunsCodesx9
import Derived.Test.YtknclbodinfbeaaDoorPRunsCodesx10
import Derived.Test.YtknclbodinfbeaaDoorPRunsCodesx14
import Derived.Test.YtknclbodinfbeaaDoorPRunsCodesx15
namespace Go.Proofs.YtknclbodinfbeaaDoor.PRunsCodes
open Go.RowKit Go.Proofs.YtknclbodinfbeaaDoorW.PrintWords Go.Proofs.YtknclbodinfbeaaDoorW.PrintLast Go.Proofs.YtknclbodinfbeaaDoorW.PrintMore
attribute [local go_sem] max2_int min2_int max_two min_two max_three min_three max_four min_four   -- for this text's walks alone
set_option linter.unusedVariables false
set_option linter.unusedSimpArgs false

/-! ### incunableref06_TwoBits: function 29 -/
mutual
def incunableref06_TwoBits.l0 : Nat → List Int → Int → Int → Int → List Int → Option (List Int)
 | 0, _, _, _, _, _ => none
 | k + 1, x3, x4, x536000, x536001, x536002 => if x4 < x536001 then ((incunableref06_RowOf.f x536000 x536001 x536002 (wrap64 (x4 - 1))).bind fun t536 => ((incunableref06_RowOf.f x536000 x536001 x536002 x4).bind fun t539 => ((incunableref06_Modes.f k t536 t539).bind fun t542 => (incunableref06_TwoBits.l1 k x3 x4 t542 (t542.length : Int) 0 x536000 x536001 x536002)))) else (some x3)
def incunableref06_TwoBits.l1 : Nat → List Int → Int → List (S37) → Int → Int → Int → Int → List Int → Option (List Int)
 | 0, _, _, _, _, _, _, _, _ => none
 | k + 1, x3, x4, x20, x21, x22, x536000, x536001, x536002 => if x22 < x21 then (if 0 ≤ x22 then (if x22 < (x20.length : Int) then (if x3.length + ((rd_T37 x20 x22).f1).length < 140737488355328 then (incunableref06_TwoBits.l1 k (x3 ++ ((rd_T37 x20 x22).f1)) x4 x20 x21 (wrap64 (x22 + 1)) x536000 x536001 x536002) else (none)) else (none)) else (none)) else (incunableref06_TwoBits.l0 k x3 (wrap64 (x4 + 1)) x536000 x536001 x536002)
end
def incunableref06_TwoBits.f (k : Nat) (a0_0 : Int) (a0_1 : Int) (l0_2 : List Int) : Option (List Int) := incunableref06_TwoBits.l0 k ([] : List Int) 0 a0_0 a0_1 l0_2
theorem incunableref06_TwoBits.mono_l : ∀ k, (∀ y0 y1 y2 y3 y4, LeO (incunableref06_TwoBits.l0 k y0 y1 y2 y3 y4) (incunableref06_TwoBits.l0 (k + 1) y0 y1 y2 y3 y4)) ∧ (∀ y0 y1 y2 y3 y4 y5 y6 y7, LeO (incunableref06_TwoBits.l1 k y0 y1 y2 y3 y4 y5 y6 y7) (incunableref06_TwoBits.l1 (k + 1) y0 y1 y2 y3 y4 y5 y6 y7))
 | 0 => ⟨fun _ _ _ _ _ r h => by simp [incunableref06_TwoBits.l0] at h, fun _ _ _ _ _ _ _ _ r h => by simp [incunableref06_TwoBits.l1] at h⟩
 | k + 1 => by
  obtain ⟨ih0, ih1⟩ := incunableref06_TwoBits.mono_l k
  refine ⟨?_, ?_⟩
  ·intro y0 y1 y2 y3 y4
   unfold incunableref06_TwoBits.l0
   repeat' first
   | (with_reducible exact ih0 _ _ _ _ _)
   | (with_reducible exact ih1 _ _ _ _ _ _ _ _)
   | (with_reducible exact incunableref06_Modes.mono _ _ _)
   | (with_reducible first | exact LeO.refl _ | exact LeO.none _ | refine LeO.ite ?_ ?_ | refine LeO.bind ?_ (fun _ => ?_))
   | exact ih0 _ _ _ _ _
   | exact ih1 _ _ _ _ _ _ _ _
   | exact incunableref06_Modes.mono _ _ _
   | exact LeO.none _ | refine LeO.ite ?_ ?_ | refine LeO.bind ?_ (fun _ => ?_)
  ·intro y0 y1 y2 y3 y4 y5 y6 y7
   unfold incunableref06_TwoBits.l1
   repeat' first
   | (with_reducible exact ih0 _ _ _ _ _)
   | (with_reducible exact ih1 _ _ _ _ _ _ _ _)
   | (with_reducible exact incunableref06_Modes.mono _ _ _)
   | (with_reducible first | exact LeO.refl _ | exact LeO.none _ | refine LeO.ite ?_ ?_ | refine LeO.bind ?_ (fun _ => ?_))
   | exact ih0 _ _ _ _ _
   | exact ih1 _ _ _ _ _ _ _ _
   | exact incunableref06_Modes.mono _ _ _
   | exact LeO.none _ | refine LeO.ite ?_ ?_ | refine LeO.bind ?_ (fun _ => ?_)
theorem incunableref06_TwoBits.mono : ∀ a0 a1 a2 k, LeO (incunableref06_TwoBits.f k a0 a1 a2) (incunableref06_TwoBits.f (k + 1) a0 a1 a2) := by
 intro a0 a1 a2 k
 obtain ⟨ih0, ih1⟩ := incunableref06_TwoBits.mono_l k
 unfold incunableref06_TwoBits.f
 repeat' first
   | (with_reducible exact ih0 _ _ _ _ _)
   | (with_reducible exact ih1 _ _ _ _ _ _ _ _)
   | (with_reducible exact incunableref06_Modes.mono _ _ _)
   | (with_reducible first | exact LeO.refl _ | exact LeO.none _ | refine LeO.ite ?_ ?_ | refine LeO.bind ?_ (fun _ => ?_))
   | exact ih0 _ _ _ _ _
   | exact ih1 _ _ _ _ _ _ _ _
   | exact incunableref06_Modes.mono _ _ _
   | exact LeO.none _ | refine LeO.ite ?_ ?_ | refine LeO.bind ?_ (fun _ => ?_)
def incunableref06_TwoBits.T5 : Bool × List (List Nat × List Nat) := (true, [([], []), ([], []), ([1], [1]), ([0, 2], [0, 2]), ([], []), ([], []), ([4, 5, 3], [4, 5]), ([3, 6, 6], [3, 6]), ([7], [7]), ([], [])])
def incunableref06_TwoBits.B5 : List Nat := [0, 0, 2, 7, 0, 0, 63, 127, 255, 0]
theorem incunableref06_TwoBits.tab5 : rtab .any (opsOf Tryd.f29 5) = incunableref06_TwoBits.T5 := by kernel_rfl
theorem incunableref06_TwoBits.bits5 : waitsOk incunableref06_TwoBits.T5.2 incunableref06_TwoBits.B5 = true := by kernel_rfl
set_option maxHeartbeats 8000000 in
set_option maxRecDepth 100000 in
theorem incunableref06_TwoBits.calls (k : Nat) (a0_0 : Int) (a0_1 : Int) (A0_2 : Option Addr) (c0_2 : Nat) (l0_2 : List Int) (r : List Int) (w : World) (hr0_2 : Kd.C (Kd.int .u8) w A0_2 l0_2.length l0_2) (hc0_2 : l0_2.length ≤ c0_2) (h : incunableref06_TwoBits.f k a0_0 a0_1 l0_2 = some r) :
  Calls Tryd.prog 29 #[.agg #[.int .i64 a0_0, .int .i64 a0_1, .slice A0_2 l0_2.length c0_2]] w fun e w' => ∃ v0_ : Value, e = .returned (v0_) ∧ Kd.R (Kd.int .u8) 5 w' w.heap.size (fun _ => True) v0_ r ∧ Below w.heap.size w w' := by
 have hu48 := Tryd.underlying48
 have hu37 := Tryd.underlying37
 have HR0_2 := Aside0.mk hr0_2
 have HC0_2 := Aside0.mk hc0_2
 clear hr0_2 hc0_2
 have HB := Aside0.mk (Below.refl w.heap.size w)
 have H : (incunableref06_TwoBits.l0 k ([] : List Int) 0 a0_0 a0_1 l0_2) = some r := h
 clear h
 have H' := Aside0.mk H
 clear H
 go_enter Tryd.func29, Tryd.ntmps29
 go_wp2_with (first | ((with_reducible refine gd 1 rfl ?_); refine bx 1 #[.int .i64 a0_0, .int .i64 a0_1, .slice A0_2 l0_2.length c0_2] 48 rfl rfl ?_; intro gb535 hg w2 hbox hb; have n_ := aC (bs hb) (aC hbox (aC (gz hg) (aE (gz hg)))); clear HB; obtain ⟨HB, BK535, GW535, GE535⟩ := n_; clear hb hbox hg))
 go_loopg [3, 4] k (fun kq v3 v4 w' => ∃ (x3_1 : List Int) (x4_1 : Int), v4 = .int .i64 x4_1 ∧ Aside0 (incunableref06_TwoBits.l0 kq x3_1 x4_1 a0_0 a0_1 l0_2 = some r) ∧ Aside0 (kq ≤ k) ∧ Aside0 (Kd.R (Kd.int .u8) 5 w' w.heap.size (fun _ => True) v3 x3_1) ∧ Aside0 (w'.heap[gb535]? = some (.cells #[.int .i64 a0_0, .int .i64 a0_1, (.slice A0_2 l0_2.length c0_2)] 48 (0, 0))) ∧ Aside0 (Below w.heap.size w w'))
 case atStart => exact ⟨(([] : List Int)), (0), rq, H', ⟨Nat.le_refl _⟩, ⟨by first | exact Kd.R_nil _ _ _ _ _ | exact Kd.N_nil _ _ _ _ _ | exact Kd.V_nil _ _ _ _ _ | exact Kd.Q_nil _ _ _ _ _ | exact Kd.S_nil _ _ _ _ _⟩, ⟨bU BK535.out⟩, ⟨bl⟩⟩
 case round =>
  clear H'
  obtain ⟨x3_1, x4_1, rfl, HA, HK1, HO_3, BK535, HB⟩ := hrel
  cases gk with
  | zero => exact absurd HA.out (by simp [incunableref06_TwoBits.l0])
  | succ k1 =>
   have H := HA.out
   clear HA
   simp only [incunableref06_TwoBits.l0] at H
   by_cases c3 : x4_1 < a0_1
   ·rw [if_pos c3] at H
    have c3b0 := decide_eq_true c3
    clear c3
    replace H := Option.bind_eq_some_iff.mp H
    obtain ⟨t536, A40, H⟩ := H
    replace H : ((incunableref06_RowOf.f a0_0 a0_1 l0_2 x4_1).bind fun t539 => ((incunableref06_Modes.f k1 t536 t539).bind fun t542 => (incunableref06_TwoBits.l1 k1 x3_1 x4_1 t542 (t542.length : Int) 0 a0_0 a0_1 l0_2))) = some r := H
    have A4 := Aside0.mk A40
    clear A40
    replace H := Option.bind_eq_some_iff.mp H
    obtain ⟨t539, A50, H⟩ := H
    replace H : ((incunableref06_Modes.f k1 t536 t539).bind fun t542 => (incunableref06_TwoBits.l1 k1 x3_1 x4_1 t542 (t542.length : Int) 0 a0_0 a0_1 l0_2)) = some r := H
    have A5 := Aside0.mk A50
    clear A50
    replace H := Option.bind_eq_some_iff.mp H
    obtain ⟨t542, A60, H⟩ := H
    replace H : (incunableref06_TwoBits.l1 k1 x3_1 x4_1 t542 (t542.length : Int) 0 a0_0 a0_1 l0_2) = some r := H
    have A6 := Aside0.mk A60
    clear A60
    have H' := Aside0.mk H
    clear H
    obtain ⟨hcz7_0, hcz7_1, hcz7_2, hfz7_0, hfz7_1, hfz7_2⟩ := cz3f BK535.out
    try go_wp2
    have n_ := aC (Kd.R_drew HO_3.out) (aC (blk_drew BK535.out) (aE (below_drew1 HB.out)))
    clear HO_3 BK535 HB
    obtain ⟨HO_3, BK535, HB⟩ := n_
    refine st 10 (fun w' => w'.cell? ⟨gb535, 0, none⟩ = some (.int .i64 a0_0) ∧ w'.cell? ⟨gb535, 1, none⟩ = some (.int .i64 a0_1) ∧ w'.cell? ⟨gb535, 2, none⟩ = some (.slice A0_2 l0_2.length c0_2)) [] (bv 10 0) incunableref06_TwoBits.tab5 incunableref06_TwoBits.bits5 ⟨kc0 BK535.out, kc1 BK535.out, kc2 BK535.out⟩ (fun hHeld HT_ HW_ => ?_)
    generalize wr.drew = w8 at HO_3 BK535 HB hHeld ⊢
    refine pu 1 14 (bv 10 2) HT_ rfl rfl ?_
    refine pu 2 15 (bv 10 6) HT_ rfl rfl ?_
    refine pu 5 18 (bv 10 38) HT_ rfl rfl ?_
    refine pu 9 22 (bv 10 550) HT_ rfl rfl ?_
    refine tk 0 13 (bv 10 551) HT_ HW_ hHeld rfl rfl (by rintro w' ⟨s0, s1, s2⟩; exact yl) ?_
    refine tk 4 17 (bv 10 567) HT_ HW_ hHeld rfl rfl (by rintro w' ⟨s0, s1, s2⟩; exact yl) ?_
    refine one_ (i := 3) (N := some 16) (bv 10 575) rfl rfl (one_of HT_.out (by kernel_rfl)) (by decide) (fun K hK => ?_)
    refine gK Tryd.func52 rfl #[.agg #[.int .i64 a0_0, .int .i64 a0_1, .slice A0_2 l0_2.length c0_2], .int .i64 (wrap64 (x4_1 - 1))] rfl rfl ?_
    with_reducible refine (incunableref06_RowOf.calls a0_0 a0_1 _ _ l0_2 (wrap64 (x4_1 - 1)) t536 _ ?side1 ?side2 A4.out).mono ?_
    (case side1 => exact cU (Kd.C_below HR0_2.out HB.out))
    (case side2 => exact HC0_2.out)
    rintro e w9 ⟨v537, rfl, ho0, hb⟩
    refine ⟨_, rfl, ?_⟩
    have n_ := aC (Kd.R_elder' (rU HO_3.out) (Kd.R_base ho0) hb) (aC (Kd.R_lower (Kd.R_new' ho0 (Kd.R_lt (rU HO_3.out))) bz) (aC (blk_below (bU BK535.out) hb) (aE (bs hb))))
    clear HO_3 BK535 HB
    obtain ⟨HO_3, HO538, BK535, HB⟩ := n_
    (try clear hb)
    (try clear hb2)
    (try clear hk)
    (try clear hi)
    (try clear ho0)
    refine hK.out _ _ ⟨kc0 BK535.out, kc1 BK535.out, kc2 BK535.out⟩ (fun hHeld => ?_)
    clear hK K
    refine nm (some 16) ?_
    refine one_ (i := 6) (N := some 19) (bv 10 639) rfl rfl (one_of HT_.out (by kernel_rfl)) (by decide) (fun K hK => ?_)
    refine gK Tryd.func52 rfl #[.agg #[.int .i64 a0_0, .int .i64 a0_1, .slice A0_2 l0_2.length c0_2], .int .i64 x4_1] rfl rfl ?_
    with_reducible refine (incunableref06_RowOf.calls a0_0 a0_1 _ _ l0_2 x4_1 t539 _ ?side1 ?side2 A5.out).mono ?_
    (case side1 => exact cU (Kd.C_below HR0_2.out HB.out))
    (case side2 => exact HC0_2.out)
    rintro e w10 ⟨v540, rfl, ho0, hb⟩
    refine ⟨_, rfl, ?_⟩
    have n_ := aC (Kd.R_elder' (rU HO_3.out) (Kd.R_base ho0) hb) (aC (Kd.R_elder' (rU HO538.out) (Kd.R_base ho0) hb) (aC (Kd.R_lower (Kd.R_new' (Kd.R_new' ho0 (Kd.R_lt (rU HO_3.out))) (Kd.R_lt (rU HO538.out))) bz) (aC (blk_below (bU BK535.out) hb) (aE (bs hb)))))
    clear HO_3 HO538 BK535 HB
    obtain ⟨HO_3, HO538, HO541, BK535, HB⟩ := n_
    (try clear hb)
    (try clear hb2)
    (try clear hk)
    (try clear hi)
    (try clear ho0)
    obtain ⟨Ao11, co11, eo11⟩ := Kd.R_slice HO538.out
    (first | subst eo11 | (injection eo11 with f1_ f2_ f3_; have f4_ := f1_.symm; have f5_ := f3_.symm; clear f1_ f2_ f3_; subst f4_; subst f5_))
    obtain ⟨Ao12, co12, eo12⟩ := Kd.R_slice HO541.out
    (first | subst eo12 | (injection eo12 with f1_ f2_ f3_; have f4_ := f1_.symm; have f5_ := f3_.symm; clear f1_ f2_ f3_; subst f4_; subst f5_))
    refine hK.out _ _ ⟨kc0 BK535.out, kc1 BK535.out, kc2 BK535.out⟩ (fun hHeld => ?_)
    clear hK K
    refine nm (some 19) ?_
    refine one_ (i := 7) (N := some 20) (bv 10 767) rfl rfl (one_of HT_.out (by kernel_rfl)) (by decide) (fun K hK => ?_)
    refine gK Tryd.func18 rfl #[.slice Ao11 t536.length co11, .slice Ao12 t539.length co12] rfl rfl ?_
    with_reducible refine (incunableref06_Modes.calls k1 _ _ t536 _ _ t539 t542 _ ?side1 ?side2 ?side3 ?side4 A6.out).mono ?_
    (case side1 => exact cU (Kd.R_reads' HO538.out).2.2)
    (case side2 => exact (Kd.R_reads' HO538.out).2.1)
    (case side3 => exact cU (Kd.R_reads' HO541.out).2.2)
    (case side4 => exact (Kd.R_reads' HO541.out).2.1)
    rintro e w13 ⟨v543, rfl, ho0, hb⟩
    refine ⟨_, rfl, ?_⟩
    have n_ := aC (Kd.R_below (rU HO_3.out) hb) (aC (Kd.R_below (rU HO538.out) hb) (aC (Kd.R_below (rU HO541.out) hb) (aC (Kd.S_lower (Kd.S_new' (Kd.S_new' (Kd.S_new' ho0 (Kd.R_lt (rU HO_3.out))) (Kd.R_lt (rU HO538.out))) (Kd.R_lt (rU HO541.out))) bz) (aC (blk_below (bU BK535.out) hb) (aE (bs hb))))))
    clear HO_3 HO538 HO541 BK535 HB
    obtain ⟨HO_3, HO538, HO541, HO544, BK535, HB⟩ := n_
    (try clear hb)
    (try clear hb2)
    (try clear hk)
    (try clear hi)
    (try clear ho0)
    obtain ⟨Ao14, co14, eo14⟩ := Kd.S_slice HO544.out
    (first | subst eo14 | (injection eo14 with f1_ f2_ f3_; have f4_ := f1_.symm; have f5_ := f3_.symm; clear f1_ f2_ f3_; subst f4_; subst f5_))
    refine hK.out _ _ ⟨kc0 BK535.out, kc1 BK535.out, kc2 BK535.out⟩ (fun hHeld => ?_)
    clear hK K
    refine nm (some 20) ?_
    refine pu 8 21 (bv 10 1023) HT_ rfl rfl ?_
    refine done_ (done_of HT_.out (by kernel_rfl)) ?_
    try go_wp2
    go_loopg [3, 22] k1 (fun kq v3 v22 w' => ∃ (x3_2 : List Int) (x22_2 : Int), v22 = .int .i64 x22_2 ∧ Aside0 (incunableref06_TwoBits.l1 kq x3_2 x4_1 t542 (t542.length : Int) x22_2 a0_0 a0_1 l0_2 = some r) ∧ Aside0 (kq ≤ k1) ∧ Aside0 (Kd.R (Kd.int .u8) 5 w' w.heap.size (fun _ => True) v3 x3_2) ∧ Aside0 (Kd.S k37 37 w' w.heap.size (fun k_ => some k_ ≠ (v3 : Value).ownBlock) (.slice Ao14 t542.length co14) t542) ∧ Aside0 (w'.heap[gb535]? = some (.cells #[.int .i64 a0_0, .int .i64 a0_1, (.slice A0_2 l0_2.length c0_2)] 48 (0, 0))) ∧ Aside0 (Below w.heap.size w w'))
    case atStart => exact ⟨(x3_1), (0), rq, H', ⟨Nat.le_refl _⟩, ⟨rU (Kd.R_mono HO_3.out (fun _ hk => trivial))⟩, ⟨by (with_reducible repeat (first | apply Kd.S_alloc | apply Kd.S_drewN | apply Kd.S_drew)); exact Kd.S_mono HO544.out (fun _ hk => hk.1.1.2)⟩, ⟨bU BK535.out⟩, ⟨bl⟩⟩
    case round =>
     clear H'
     obtain ⟨x3_2, x22_2, rfl, HA, HK2, HO_3, HO_20, BK535, HB⟩ := hrel
     cases gk with
     | zero => exact absurd HA.out (by simp [incunableref06_TwoBits.l1])
     | succ k2 =>
      have H := HA.out
      clear HA
      simp only [incunableref06_TwoBits.l1] at H
      by_cases c15 : x22_2 < (t542.length : Int)
      ·rw [if_pos c15] at H
       have c15b0 := decide_eq_true c15
       clear c15
       by_cases c16 : 0 ≤ x22_2
       ·rw [if_pos c16] at H
        have c16b0 := decide_eq_true c16
        clear c16
        by_cases c17 : x22_2 < (t542.length : Int)
        ·rw [if_pos c17] at H
         have c17b0 := decide_eq_true c17
         clear c17
         by_cases c18 : x3_2.length + ((rd_T37 t542 x22_2).f1).length < 140737488355328
         ·rw [if_pos c18] at H
          have LMc18 := Aside0.mk c18
          clear c18
          obtain ⟨y547, hy_⟩ : ∃ y_ : List Int, y_ = (x3_2 ++ ((rd_T37 t542 x22_2).f1)) := ⟨_, rfl⟩
          replace H : (incunableref06_TwoBits.l1 k2 y547 x4_1 t542 (t542.length : Int) (wrap64 (x22_2 + 1)) a0_0 a0_1 l0_2) = some r := rh
          have Ny547 := aE hy_
          clear hy_
          have H' := Aside0.mk H
          clear H
          have p545 : 0 ≤ (x22_2 : Int) := dt
          have q545 : x22_2 < (t542.length : Int) := dt
          obtain ⟨ad545, A545_1, c545_1, e545, hx545_0, hx545_1, hx545_2, hx545_3, hl545_1, hi545_1⟩ := at_T37 (Kd.S_reads' HO_20.out).2.2 x22_2 p545 q545
          cases e545
          obtain ⟨ce545, hce545, hMe545, hcc545⟩ := Kd.S_get HO_20.out z37 x22_2 p545 (by first | exact q545 | exact dt | (have e_ := (Kd.S_reads' HO_20.out).1; omega))
          obtain ⟨ve545_1, rfl, ge545_1⟩ := k37_openM hMe545
          have hv545_1 := hcc545 1 _ rfl
          rw [add_field _ _ 1 (by omega)] at hv545_1
          replace hv545_1 := Option.some.inj (hv545_1.symm.trans hx545_1)
          rw [hv545_1] at ge545_1
          have HL545_1 := Aside0.mk (show Kd.R (Kd.int .u8) 5 _ _ _ _ ((rd_T37 t542 x22_2).f1) from ge545_1)
          clear hv545_1 ge545_1
          clear hcc545 hce545
          have HR545_1 := Aside0.mk hi545_1
          have HC545_1 := Aside0.mk hl545_1
          clear hi545_1 hl545_1
          replace p545 := eq_true p545
          replace q545 := eq_true q545
          go_wp2_with (first | ((with_reducible refine gd 6 rfl ?_); refine bx 6 #[.string (⟨#[]⟩ : ByteArray), .slice none 0 0, .int .i64 0, .int .i64 0] 37 rfl rfl ?_; intro gb546 hg w19 hbox hb; have n_ := aC (Kd.R_below (rU HO_3.out) hb) (aC (Kd.S_below (Kd.S_elderB (by (with_reducible repeat (first | apply Kd.S_alloc | apply Kd.S_drewN | apply Kd.S_drew)); exact HO_20.out) gb546 (Nat.le_of_eq hg.symm)) hb) (aC (Kd.R_below (rU HL545_1.out) hb) (aC (blk_below (bU BK535.out) hb) (aC (Kd.C_below (by repeat (first | (with_reducible exact HR545_1.out) | (with_reducible refine Kd.C_alloc ?_ _) | (with_reducible refine Kd.C_drewN ?_ _) | (with_reducible refine Kd.C_drew ?_) | exact HR545_1.out)) hb) (aC (bs hb) (aC hbox (aC (gz hg) (aC (gz hg) (aC (gn hg (bU BK535.out)) (aE (gm hg (bU BK535.out)))))))))))); clear HO_3 HO_20 HL545_1 BK535 HR545_1 HB; obtain ⟨HO_3, HO_20, HL545_1, BK535, HR545_1, HB, BK546, GW546, GE546, NB535_546, NB546_535⟩ := n_; clear hb hbox hg; have hnb20 := NB546_535.out; have hnc20 := NB535_546.out; obtain ⟨hcz21_0, hcz21_1, hcz21_2, hcz21_3, hfz21_0, hfz21_1, hfz21_2, hfz21_3⟩ := cz4f BK546.out) | ((with_reducible refine gate_builtin (b := .append) (xs := #[.tmp 26, .tmp 28]) rfl ?_); at_builtin; refine Kd.R_append_rows (Kd.int .u8) (w0 := w) w.heap.size rfl (.tmp 26) (.tmp 28) 22 5 (.int .u8 0) 1 rfl Tryd.underlying22 info5 rfl (by decide) (by omega) u3 x3_2 ((rd_T37 t542 x22_2).f1) _ _ _ (fun _ => True) (fun _ => False) rfl rfl ?aO ?aR (fun _ _ h => h) (fun _ h => h.elim) ?aF ?aB ?aS ?aL ?_; (case aR => repeat (first | exact ((Kd.R_reads' (rU (Kd.R_mono (Kd.R_far (p := ⟨gb546, 3, none⟩) (Kd.R_far (p := ⟨gb546, 2, none⟩) (Kd.R_far (p := ⟨gb546, 1, none⟩) (Kd.R_far (p := ⟨gb546, 0, none⟩) (Kd.R_types HL545_1.out BK546.out (by decide)) (fun _ hk => hk.2) (.string ((rd_T37 t542 x22_2).f0))) (fun _ hk => hk.2) (.slice A545_1 ((rd_T37 t542 x22_2).f1).length c545_1)) (fun _ hk => hk.2) (.int .i64 ((rd_T37 t542 x22_2).f2))) (fun _ hk => hk.2) (.int .i64 ((rd_T37 t542 x22_2).f3))) (fun _ h_ => h_.1)))).2.2) | (with_reducible refine Kd.C_alloc ?_ _) | (with_reducible refine Kd.C_drewN ?_ _) | (with_reducible refine Kd.C_drew ?_))); (case aB => exact bl); (case aF => exact (fun _ _ => trivial)); (case aO => exact (rU (Kd.R_mono (Kd.R_far (p := ⟨gb546, 3, none⟩) (Kd.R_far (p := ⟨gb546, 2, none⟩) (Kd.R_far (p := ⟨gb546, 1, none⟩) (Kd.R_far (p := ⟨gb546, 0, none⟩) (Kd.R_types HO_3.out BK546.out (by decide)) (fun _ hk => hk.2) (.string ((rd_T37 t542 x22_2).f0))) (fun _ hk => hk.2) (.slice A545_1 ((rd_T37 t542 x22_2).f1).length c545_1)) (fun _ hk => hk.2) (.int .i64 ((rd_T37 t542 x22_2).f2))) (fun _ hk => hk.2) (.int .i64 ((rd_T37 t542 x22_2).f3))) (fun _ hk => trivial)))); (case aS => exact bz); (case aL => have := LMc18.out; omega); intro v548 w22 ho hb hg hat; rw [← Ny547.out] at ho; have n_ := aC (Kd.S_after (ok := (fun k_ => k_ ≠ gb546)) (by (with_reducible repeat (first | apply Kd.S_alloc | apply Kd.S_drewN | apply Kd.S_drew)); exact Kd.S_mono (Kd.S_far (p := ⟨gb546, 3, none⟩) (Kd.S_far (p := ⟨gb546, 2, none⟩) (Kd.S_far (p := ⟨gb546, 1, none⟩) (Kd.S_far (p := ⟨gb546, 0, none⟩) (Kd.S_mono HO_20.out (fun k_ hk => (⟨hk, hk.2⟩ : _ ∧ k_ ≠ gb546))) (fun _ hk => hk.2) (.string ((rd_T37 t542 x22_2).f0))) (fun _ hk => hk.2) (.slice A545_1 ((rd_T37 t542 x22_2).f1).length c545_1)) (fun _ hk => hk.2) (.int .i64 ((rd_T37 t542 x22_2).f2))) (fun _ hk => hk.2) (.int .i64 ((rd_T37 t542 x22_2).f3))) (fun _ hk => ⟨hk.1.2, hk.1.1⟩)) hg hat) (aC (blk_grown (g := gb535) (o := .cells #[.int .i64 a0_0, .int .i64 a0_1, .slice A0_2 l0_2.length c0_2] 48 (0, 0)) (by (with_reducible repeat (first | refine blk_drewN ?_ _ | refine blk_drew ?_ | refine blk_alloc ?_ _)); refine blk_far ?_ NB535_546.out _; (with_reducible repeat (first | refine blk_drewN ?_ _ | refine blk_drew ?_ | refine blk_alloc ?_ _)); refine blk_far ?_ NB535_546.out _; (with_reducible repeat (first | refine blk_drewN ?_ _ | refine blk_drew ?_ | refine blk_alloc ?_ _)); refine blk_far ?_ NB535_546.out _; (with_reducible repeat (first | refine blk_drewN ?_ _ | refine blk_drew ?_ | refine blk_alloc ?_ _)); refine blk_far ?_ NB535_546.out _; (with_reducible repeat (first | refine blk_drewN ?_ _ | refine blk_drew ?_ | refine blk_alloc ?_ _)); exact BK535.out) hg (Kd.R_ne HO_3.out BK535.out (by decide))) (aC (Kd.R_after (ok := (fun k_ => some k_ ≠ (.slice (some ad545) t542.length co14 : Value).ownBlock)) (rU (Kd.R_mono (Kd.R_far (p := ⟨gb546, 3, none⟩) (Kd.R_far (p := ⟨gb546, 2, none⟩) (Kd.R_far (p := ⟨gb546, 1, none⟩) (Kd.R_far (p := ⟨gb546, 0, none⟩) (Kd.R_types HL545_1.out BK546.out (by decide)) (fun _ hk => hk.2) (.string ((rd_T37 t542 x22_2).f0))) (fun _ hk => hk.2) (.slice A545_1 ((rd_T37 t542 x22_2).f1).length c545_1)) (fun _ hk => hk.2) (.int .i64 ((rd_T37 t542 x22_2).f2))) (fun _ hk => hk.2) (.int .i64 ((rd_T37 t542 x22_2).f3))) (fun _ hk => ⟨hk.1.2, hk.1.1⟩))) hg hat) (aC (blk_grown (g := gb546) (o := .cells #[.string ((rd_T37 t542 x22_2).f0), .slice A545_1 ((rd_T37 t542 x22_2).f1).length c545_1, .int .i64 ((rd_T37 t542 x22_2).f2), .int .i64 ((rd_T37 t542 x22_2).f3)] 37 (0, 0)) (by (with_reducible repeat (first | refine blk_drewN ?_ _ | refine blk_drew ?_ | refine blk_alloc ?_ _)); refine blk_put (cs := #[.string ((rd_T37 t542 x22_2).f0), .slice A545_1 ((rd_T37 t542 x22_2).f1).length c545_1, .int .i64 ((rd_T37 t542 x22_2).f2), .int .i64 0]) ?_ 3 _ rfl; (with_reducible repeat (first | refine blk_drewN ?_ _ | refine blk_drew ?_ | refine blk_alloc ?_ _)); refine blk_put (cs := #[.string ((rd_T37 t542 x22_2).f0), .slice A545_1 ((rd_T37 t542 x22_2).f1).length c545_1, .int .i64 0, .int .i64 0]) ?_ 2 _ rfl; (with_reducible repeat (first | refine blk_drewN ?_ _ | refine blk_drew ?_ | refine blk_alloc ?_ _)); refine blk_put (cs := #[.string ((rd_T37 t542 x22_2).f0), .slice none 0 0, .int .i64 0, .int .i64 0]) ?_ 1 _ rfl; (with_reducible repeat (first | refine blk_drewN ?_ _ | refine blk_drew ?_ | refine blk_alloc ?_ _)); refine blk_put (cs := #[.string (⟨#[]⟩ : ByteArray), .slice none 0 0, .int .i64 0, .int .i64 0]) ?_ 0 _ rfl; (with_reducible repeat (first | refine blk_drewN ?_ _ | refine blk_drew ?_ | refine blk_alloc ?_ _)); exact BK546.out) hg (Kd.R_ne HO_3.out BK546.out (by decide))) (aC hb (aE ho))))); clear HO_20 BK535 HL545_1 BK546 HB HO_3; obtain ⟨HO_20, BK535, HL545_1, BK546, HB, HO549⟩ := n_; clear ho hb hg hat))
          go_roundg k2
          case measure => have := HK1.out; have := HK2.out; omega
          case rel => exact ⟨(y547), (wrap64 (x22_2 + 1)), rq, H', ⟨by have := HK1.out; have := HK2.out; omega⟩, ⟨rU HO549.out⟩, ⟨by (with_reducible repeat (first | apply Kd.S_alloc | apply Kd.S_drewN | apply Kd.S_drew)); exact Kd.S_mono HO_20.out (fun _ hk => hk.2)⟩, ⟨bU BK535.out⟩, ⟨bl⟩⟩
         ·rw [if_neg c18] at H
          exact absurd H (by simp)
        ·rw [if_neg c17] at H
         exact absurd H (by simp)
       ·rw [if_neg c16] at H
        exact absurd H (by simp)
      ·rw [if_neg c15] at H
       have c15b0 := decide_eq_false c15
       clear c15
       have H' := Aside0.mk H
       clear H
       go_wp2
       go_roundg k2
       case measure => have := HK1.out; have := HK2.out; omega
       case rel => exact ⟨(x3_2), (wrap64 (x4_1 + 1)), rq, H', ⟨by have := HK1.out; have := HK2.out; omega⟩, ⟨rU HO_3.out⟩, ⟨bU BK535.out⟩, ⟨bl⟩⟩
   ·rw [if_neg c3] at H
    have c3b0 := decide_eq_false c3
    clear c3
    obtain rfl := Option.some.inj H
    obtain ⟨hcz23_0, hcz23_1, hcz23_2, hfz23_0, hfz23_1, hfz23_2⟩ := cz3f BK535.out
    go_wp2
    go_ret
    exact ⟨_, re, rU HO_3.out, bl⟩

/-! ### incunablelaw06_RunsCodes: function 7 -/
def incunablelaw06_RunsCodes.f (k : Nat) (a0_0 : Int) (a0_1 : Int) (l0_2 : List Int) : Option (Bool) := (runs_One.f k a0_0 a0_1 l0_2).bind fun bt551 => ((runs_Two.f k a0_0 a0_1 l0_2).bind fun bt555 => ((incunableref06_IsBitmap.f k a0_0 a0_1 l0_2).bind fun t559 => (if t559 = true then (if bt551.2 = 0 then (if bt555.2 = 0 then ((incunableref06_OneBits.f k a0_0 a0_1 l0_2).bind fun t561 => ((incunableref04_Packed.f k t561).bind fun t564 => ((incunableref02_SameBytes.f k bt551.1 t564).bind fun t567 => (if t567 = true then ((incunableref06_TwoBits.f k a0_0 a0_1 l0_2).bind fun t568 => ((incunableref04_Packed.f k t568).bind fun t571 => ((incunableref02_SameBytes.f k bt555.1 t571).bind fun t574 => (if t574 = true then ((incunablelaw06_Awake.f k).bind fun t575 => (some t575)) else (some false))))) else (some false))))) else (some false)) else (some false)) else (if (bt551.1.length : Int) = 0 then (if (bt555.1.length : Int) = 0 then (if bt551.2 = 30 then (if bt555.2 = 30 then ((incunablelaw06_Awake.f k).bind fun t560 => (some t560)) else (some false)) else (some false)) else (some false)) else (some false)))))
theorem incunablelaw06_RunsCodes.mono : ∀ a0 a1 a2 k, LeO (incunablelaw06_RunsCodes.f k a0 a1 a2) (incunablelaw06_RunsCodes.f (k + 1) a0 a1 a2) := by
 intro a0 a1 a2 k
 unfold incunablelaw06_RunsCodes.f
 repeat' first
   | (with_reducible exact incunablelaw06_Awake.mono _)
   | (with_reducible exact incunableref02_SameBytes.mono _ _ _)
   | (with_reducible exact incunableref04_Packed.mono _ _)
   | (with_reducible exact incunableref06_IsBitmap.mono _ _ _ _)
   | (with_reducible exact incunableref06_OneBits.mono _ _ _ _)
   | (with_reducible exact incunableref06_TwoBits.mono _ _ _ _)
   | (with_reducible exact runs_One.mono _ _ _ _)
   | (with_reducible exact runs_Two.mono _ _ _ _)
   | (with_reducible first | exact LeO.refl _ | exact LeO.none _ | refine LeO.ite ?_ ?_ | refine LeO.bind ?_ (fun _ => ?_))
   | exact incunablelaw06_Awake.mono _
   | exact incunableref02_SameBytes.mono _ _ _
   | exact incunableref04_Packed.mono _ _
   | exact incunableref06_IsBitmap.mono _ _ _ _
   | exact incunableref06_OneBits.mono _ _ _ _
   | exact incunableref06_TwoBits.mono _ _ _ _
   | exact runs_One.mono _ _ _ _
   | exact runs_Two.mono _ _ _ _
   | exact LeO.none _ | refine LeO.ite ?_ ?_ | refine LeO.bind ?_ (fun _ => ?_)
set_option maxHeartbeats 8000000 in
set_option maxRecDepth 100000 in
theorem incunablelaw06_RunsCodes.calls (k : Nat) (a0_0 : Int) (a0_1 : Int) (A0_2 : Option Addr) (c0_2 : Nat) (l0_2 : List Int) (r : Bool) (w : World) (hT0 : TIs w) (hr0_2 : Kd.C (Kd.int .u8) w A0_2 l0_2.length l0_2) (hc0_2 : l0_2.length ≤ c0_2) (h : incunablelaw06_RunsCodes.f k a0_0 a0_1 l0_2 = some r) (hr_ : r = true) :
  Calls Tryd.prog 7 #[.agg #[.int .i64 a0_0, .int .i64 a0_1, .slice A0_2 l0_2.length c0_2]] w fun e w' => e = .returned (.bool r) ∧ Below w.heap.size w w' := by
 have HTI := Aside0.mk hT0
 clear hT0
 have HR_ := Aside0.mk hr_
 clear hr_
 have hu48 := Tryd.underlying48
 have HR0_2 := Aside0.mk hr0_2
 have HC0_2 := Aside0.mk hc0_2
 clear hr0_2 hc0_2
 have HB := Aside0.mk (Below.refl w.heap.size w)
 have H : ((runs_One.f k a0_0 a0_1 l0_2).bind fun bt551 => ((runs_Two.f k a0_0 a0_1 l0_2).bind fun bt555 => ((incunableref06_IsBitmap.f k a0_0 a0_1 l0_2).bind fun t559 => (if t559 = true then (if bt551.2 = 0 then (if bt555.2 = 0 then ((incunableref06_OneBits.f k a0_0 a0_1 l0_2).bind fun t561 => ((incunableref04_Packed.f k t561).bind fun t564 => ((incunableref02_SameBytes.f k bt551.1 t564).bind fun t567 => (if t567 = true then ((incunableref06_TwoBits.f k a0_0 a0_1 l0_2).bind fun t568 => ((incunableref04_Packed.f k t568).bind fun t571 => ((incunableref02_SameBytes.f k bt555.1 t571).bind fun t574 => (if t574 = true then ((incunablelaw06_Awake.f k).bind fun t575 => (some t575)) else (some false))))) else (some false))))) else (some false)) else (some false)) else (if (bt551.1.length : Int) = 0 then (if (bt555.1.length : Int) = 0 then (if bt551.2 = 30 then (if bt555.2 = 30 then ((incunablelaw06_Awake.f k).bind fun t560 => (some t560)) else (some false)) else (some false)) else (some false)) else (some false)))))) = some r := h
 clear h
 replace H := Option.bind_eq_some_iff.mp H
 obtain ⟨⟨t551, t554⟩, A20, H⟩ := H
 replace H : ((runs_Two.f k a0_0 a0_1 l0_2).bind fun bt555 => ((incunableref06_IsBitmap.f k a0_0 a0_1 l0_2).bind fun t559 => (if t559 = true then (if t554 = 0 then (if bt555.2 = 0 then ((incunableref06_OneBits.f k a0_0 a0_1 l0_2).bind fun t561 => ((incunableref04_Packed.f k t561).bind fun t564 => ((incunableref02_SameBytes.f k t551 t564).bind fun t567 => (if t567 = true then ((incunableref06_TwoBits.f k a0_0 a0_1 l0_2).bind fun t568 => ((incunableref04_Packed.f k t568).bind fun t571 => ((incunableref02_SameBytes.f k bt555.1 t571).bind fun t574 => (if t574 = true then ((incunablelaw06_Awake.f k).bind fun t575 => (some t575)) else (some false))))) else (some false))))) else (some false)) else (some false)) else (if (t551.length : Int) = 0 then (if (bt555.1.length : Int) = 0 then (if t554 = 30 then (if bt555.2 = 30 then ((incunablelaw06_Awake.f k).bind fun t560 => (some t560)) else (some false)) else (some false)) else (some false)) else (some false))))) = some r := H
 have A2 := Aside0.mk A20
 clear A20
 replace H := Option.bind_eq_some_iff.mp H
 obtain ⟨⟨t555, t558⟩, A30, H⟩ := H
 replace H : ((incunableref06_IsBitmap.f k a0_0 a0_1 l0_2).bind fun t559 => (if t559 = true then (if t554 = 0 then (if t558 = 0 then ((incunableref06_OneBits.f k a0_0 a0_1 l0_2).bind fun t561 => ((incunableref04_Packed.f k t561).bind fun t564 => ((incunableref02_SameBytes.f k t551 t564).bind fun t567 => (if t567 = true then ((incunableref06_TwoBits.f k a0_0 a0_1 l0_2).bind fun t568 => ((incunableref04_Packed.f k t568).bind fun t571 => ((incunableref02_SameBytes.f k t555 t571).bind fun t574 => (if t574 = true then ((incunablelaw06_Awake.f k).bind fun t575 => (some t575)) else (some false))))) else (some false))))) else (some false)) else (some false)) else (if (t551.length : Int) = 0 then (if (t555.length : Int) = 0 then (if t554 = 30 then (if t558 = 30 then ((incunablelaw06_Awake.f k).bind fun t560 => (some t560)) else (some false)) else (some false)) else (some false)) else (some false)))) = some r := H
 have A3 := Aside0.mk A30
 clear A30
 replace H := Option.bind_eq_some_iff.mp H
 obtain ⟨t559, A40, H⟩ := H
 replace H : (if t559 = true then (if t554 = 0 then (if t558 = 0 then ((incunableref06_OneBits.f k a0_0 a0_1 l0_2).bind fun t561 => ((incunableref04_Packed.f k t561).bind fun t564 => ((incunableref02_SameBytes.f k t551 t564).bind fun t567 => (if t567 = true then ((incunableref06_TwoBits.f k a0_0 a0_1 l0_2).bind fun t568 => ((incunableref04_Packed.f k t568).bind fun t571 => ((incunableref02_SameBytes.f k t555 t571).bind fun t574 => (if t574 = true then ((incunablelaw06_Awake.f k).bind fun t575 => (some t575)) else (some false))))) else (some false))))) else (some false)) else (some false)) else (if (t551.length : Int) = 0 then (if (t555.length : Int) = 0 then (if t554 = 30 then (if t558 = 30 then ((incunablelaw06_Awake.f k).bind fun t560 => (some t560)) else (some false)) else (some false)) else (some false)) else (some false))) = some r := H
 have A4 := Aside0.mk A40
 clear A40
 by_cases c5 : t559 = true
 ·subst c5
  have H1 : (if t554 = 0 then (if t558 = 0 then ((incunableref06_OneBits.f k a0_0 a0_1 l0_2).bind fun t561 => ((incunableref04_Packed.f k t561).bind fun t564 => ((incunableref02_SameBytes.f k t551 t564).bind fun t567 => (if t567 = true then ((incunableref06_TwoBits.f k a0_0 a0_1 l0_2).bind fun t568 => ((incunableref04_Packed.f k t568).bind fun t571 => ((incunableref02_SameBytes.f k t555 t571).bind fun t574 => (if t574 = true then ((incunablelaw06_Awake.f k).bind fun t575 => (some t575)) else (some false))))) else (some false))))) else (some false)) else (some false)) = some r := by rw [if_pos rfl] at H; exact H
  clear H
  have H := H1
  clear H1
  by_cases c6 : t554 = 0
  ·rw [if_pos c6] at H
   have c6b0 := beq_iff_eq.mpr c6
   have c6b1 := bne_eq_false_iff_eq.mpr c6
   clear c6
   by_cases c7 : t558 = 0
   ·rw [if_pos c7] at H
    have c7b0 := beq_iff_eq.mpr c7
    have c7b1 := bne_eq_false_iff_eq.mpr c7
    clear c7
    replace H := Option.bind_eq_some_iff.mp H
    obtain ⟨t561, A80, H⟩ := H
    replace H : ((incunableref04_Packed.f k t561).bind fun t564 => ((incunableref02_SameBytes.f k t551 t564).bind fun t567 => (if t567 = true then ((incunableref06_TwoBits.f k a0_0 a0_1 l0_2).bind fun t568 => ((incunableref04_Packed.f k t568).bind fun t571 => ((incunableref02_SameBytes.f k t555 t571).bind fun t574 => (if t574 = true then ((incunablelaw06_Awake.f k).bind fun t575 => (some t575)) else (some false))))) else (some false)))) = some r := H
    have A8 := Aside0.mk A80
    clear A80
    replace H := Option.bind_eq_some_iff.mp H
    obtain ⟨t564, A90, H⟩ := H
    replace H : ((incunableref02_SameBytes.f k t551 t564).bind fun t567 => (if t567 = true then ((incunableref06_TwoBits.f k a0_0 a0_1 l0_2).bind fun t568 => ((incunableref04_Packed.f k t568).bind fun t571 => ((incunableref02_SameBytes.f k t555 t571).bind fun t574 => (if t574 = true then ((incunablelaw06_Awake.f k).bind fun t575 => (some t575)) else (some false))))) else (some false))) = some r := H
    have A9 := Aside0.mk A90
    clear A90
    replace H := Option.bind_eq_some_iff.mp H
    obtain ⟨t567, A100, H⟩ := H
    replace H : (if t567 = true then ((incunableref06_TwoBits.f k a0_0 a0_1 l0_2).bind fun t568 => ((incunableref04_Packed.f k t568).bind fun t571 => ((incunableref02_SameBytes.f k t555 t571).bind fun t574 => (if t574 = true then ((incunablelaw06_Awake.f k).bind fun t575 => (some t575)) else (some false))))) else (some false)) = some r := H
    have A10 := Aside0.mk A100
    clear A100
    by_cases c11 : t567 = true
    ·subst c11
     have H1 : ((incunableref06_TwoBits.f k a0_0 a0_1 l0_2).bind fun t568 => ((incunableref04_Packed.f k t568).bind fun t571 => ((incunableref02_SameBytes.f k t555 t571).bind fun t574 => (if t574 = true then ((incunablelaw06_Awake.f k).bind fun t575 => (some t575)) else (some false))))) = some r := by rw [if_pos rfl] at H; exact H
     clear H
     have H := H1
     clear H1
     replace H := Option.bind_eq_some_iff.mp H
     obtain ⟨t568, A120, H⟩ := H
     replace H : ((incunableref04_Packed.f k t568).bind fun t571 => ((incunableref02_SameBytes.f k t555 t571).bind fun t574 => (if t574 = true then ((incunablelaw06_Awake.f k).bind fun t575 => (some t575)) else (some false)))) = some r := H
     have A12 := Aside0.mk A120
     clear A120
     replace H := Option.bind_eq_some_iff.mp H
     obtain ⟨t571, A130, H⟩ := H
     replace H : ((incunableref02_SameBytes.f k t555 t571).bind fun t574 => (if t574 = true then ((incunablelaw06_Awake.f k).bind fun t575 => (some t575)) else (some false))) = some r := H
     have A13 := Aside0.mk A130
     clear A130
     replace H := Option.bind_eq_some_iff.mp H
     obtain ⟨t574, A140, H⟩ := H
     replace H : (if t574 = true then ((incunablelaw06_Awake.f k).bind fun t575 => (some t575)) else (some false)) = some r := H
     have A14 := Aside0.mk A140
     clear A140
     by_cases c15 : t574 = true
     ·subst c15
      have H1 : ((incunablelaw06_Awake.f k).bind fun t575 => (some t575)) = some r := by rw [if_pos rfl] at H; exact H
      clear H
      have H := H1
      clear H1
      replace H := Option.bind_eq_some_iff.mp H
      obtain ⟨t575, A160, H⟩ := H
      replace H : (some t575) = some r := H
      have A16 := Aside0.mk A160
      clear A160
      obtain rfl := Option.some.inj H
      go_enter Tryd.func7, Tryd.ntmps7
      go_wp2_with (first | ((with_reducible refine gd 1 rfl ?_); (try (refine gate_guard (by rfl) ?_; dsimp only)); refine bx 1 #[.int .i64 a0_0, .int .i64 a0_1, .slice A0_2 l0_2.length c0_2] 48 rfl rfl ?_; intro gb550 hg w17 hbox hb; have n_ := aC (bs hb) (aC hbox (aC (gz hg) (aE (gz hg)))); clear HB; obtain ⟨HB, BK550, GW550, GE550⟩ := n_; clear hb hbox hg; obtain ⟨hcz18_0, hcz18_1, hcz18_2, hfz18_0, hfz18_1, hfz18_2⟩ := cz3f BK550.out) | ((with_reducible refine gf 24 rfl ?_); refine gL (some 9) rfl rfl Tryd.func24 rfl #[.agg #[.int .i64 a0_0, .int .i64 a0_1, .slice A0_2 l0_2.length c0_2]] rfl ?_; (with_reducible refine (runs_One.calls k a0_0 a0_1 _ _ l0_2 t551 t554 _ ?side1 ?side2 A2.out).mono ?_); (case side1 => exact cU (Kd.C_below HR0_2.out HB.out)); (case side2 => exact HC0_2.out); rintro e w19 ⟨v552, rfl, ho0, hb⟩; refine ⟨_, rfl, ?_⟩; have n_ := aC (Kd.R_lower ho0 bz) (aC (blk_below (bU BK550.out) hb) (aE (bs hb))); clear BK550 HB; obtain ⟨HO553, BK550, HB⟩ := n_; (try clear hb); (try clear ho0); obtain ⟨hcz20_0, hcz20_1, hcz20_2, hfz20_0, hfz20_1, hfz20_2⟩ := cz3f BK550.out) | ((with_reducible refine gf 25 rfl ?_); refine gL (some 14) rfl rfl Tryd.func25 rfl #[.agg #[.int .i64 a0_0, .int .i64 a0_1, .slice A0_2 l0_2.length c0_2]] rfl ?_; (with_reducible refine (runs_Two.calls k a0_0 a0_1 _ _ l0_2 t555 t558 _ ?side1 ?side2 A3.out).mono ?_); (case side1 => exact cU (Kd.C_below HR0_2.out HB.out)); (case side2 => exact HC0_2.out); rintro e w21 ⟨v556, rfl, ho0, hb⟩; refine ⟨_, rfl, ?_⟩; have n_ := aC (Kd.R_elder' (rU HO553.out) (Kd.R_base ho0) hb) (aC (Kd.R_lower (Kd.R_new' ho0 (Kd.R_lt (rU HO553.out))) bz) (aC (blk_below (bU BK550.out) hb) (aE (bs hb)))); clear HO553 BK550 HB; obtain ⟨HO553, HO557, BK550, HB⟩ := n_; (try clear hb); (try clear ho0); obtain ⟨hcz22_0, hcz22_1, hcz22_2, hfz22_0, hfz22_1, hfz22_2⟩ := cz3f BK550.out) | ((with_reducible refine gf 26 rfl ?_); refine gL (some 18) rfl rfl Tryd.func26 rfl #[.agg #[.int .i64 a0_0, .int .i64 a0_1, .slice A0_2 l0_2.length c0_2]] rfl ?_; (with_reducible refine (incunableref06_IsBitmap.calls k a0_0 a0_1 _ _ l0_2 true _ ?side1 ?side2 A4.out).mono ?_); (case side1 => exact cU (Kd.C_below HR0_2.out HB.out)); (case side2 => exact HC0_2.out); rintro e w23 ⟨rfl, hb⟩; refine ⟨_, rfl, ?_⟩; have n_ := aC (Kd.R_below (rU HO553.out) hb) (aC (Kd.R_below (rU HO557.out) hb) (aC (blk_below (bU BK550.out) hb) (aE (bs hb)))); clear HO553 HO557 BK550 HB; obtain ⟨HO553, HO557, BK550, HB⟩ := n_; (try clear hb); obtain ⟨hcz24_0, hcz24_1, hcz24_2, hfz24_0, hfz24_1, hfz24_2⟩ := cz3f BK550.out) | (go_at_call 28; (with_reducible refine (incunableref06_OneBits.calls k a0_0 a0_1 _ _ l0_2 t561 _ ?side1 ?side2 A8.out).mono ?_); (case side1 => exact cU (Kd.C_below HR0_2.out HB.out)); (case side2 => exact HC0_2.out); rintro e w25 ⟨v562, rfl, ho0, hb⟩; have n_ := aC (Kd.R_elder' (rU HO553.out) (Kd.R_base ho0) hb) (aC (Kd.R_elder' (rU HO557.out) (Kd.R_base ho0) hb) (aC (Kd.R_lower (Kd.R_new' (Kd.R_new' ho0 (Kd.R_lt (rU HO553.out))) (Kd.R_lt (rU HO557.out))) bz) (aC (blk_below (bU BK550.out) hb) (aE (bs hb))))); clear HO553 HO557 BK550 HB; obtain ⟨HO553, HO557, HO563, BK550, HB⟩ := n_; (try clear hb); (try clear ho0); obtain ⟨Ao26, co26, eo26⟩ := Kd.R_slice HO563.out; subst eo26) | (go_at_call 27; (with_reducible refine (incunableref04_Packed.calls k _ _ t561 t564 _ ?side1 ?side2 A9.out).mono ?_); (case side1 => exact cU (Kd.R_reads' HO563.out).2.2); (case side2 => exact (Kd.R_reads' HO563.out).2.1); rintro e w27 ⟨v565, rfl, ho0, hb⟩; have n_ := aC (Kd.R_elder' (rU HO553.out) (Kd.R_base ho0) hb) (aC (Kd.R_elder' (rU HO557.out) (Kd.R_base ho0) hb) (aC (Kd.R_elder' (rU HO563.out) (Kd.R_base ho0) hb) (aC (Kd.R_lower (Kd.R_new' (Kd.R_new' (Kd.R_new' ho0 (Kd.R_lt (rU HO553.out))) (Kd.R_lt (rU HO557.out))) (Kd.R_lt (rU HO563.out))) bz) (aC (blk_below (bU BK550.out) hb) (aE (bs hb)))))); clear HO553 HO557 HO563 BK550 HB; obtain ⟨HO553, HO557, HO563, HO566, BK550, HB⟩ := n_; (try clear hb); (try clear ho0); obtain ⟨Ao28, co28, eo28⟩ := Kd.R_slice HO553.out; subst eo28; obtain ⟨Ao29, co29, eo29⟩ := Kd.R_slice HO566.out; subst eo29) | (go_at_call 14; (with_reducible refine (incunableref02_SameBytes.calls k _ _ t551 _ _ t564 true _ ?side1 ?side2 ?side3 ?side4 A10.out).mono ?_); (case side1 => exact cU (Kd.R_reads' HO553.out).2.2); (case side2 => exact (Kd.R_reads' HO553.out).2.1); (case side3 => exact cU (Kd.R_reads' HO566.out).2.2); (case side4 => exact (Kd.R_reads' HO566.out).2.1); rintro e w' ⟨rfl, ⟨nd, rfl⟩⟩; obtain ⟨hcz30_0, hcz30_1, hcz30_2, hfz30_0, hfz30_1, hfz30_2⟩ := cz3f BK550.out) | (go_at_call 29; (with_reducible refine (incunableref06_TwoBits.calls k a0_0 a0_1 _ _ l0_2 t568 _ ?side1 ?side2 A12.out).mono ?_); (case side1 => exact cU (Kd.C_below HR0_2.out bl)); (case side2 => exact HC0_2.out); rintro e w31 ⟨v569, rfl, ho0, hb⟩; have n_ := aC (Kd.R_elder' (rU HO553.out) (Kd.R_base ho0) hb) (aC (Kd.R_elder' (rU HO557.out) (Kd.R_base ho0) hb) (aC (Kd.R_elder' (rU HO563.out) (Kd.R_base ho0) hb) (aC (Kd.R_elder' (rU HO566.out) (Kd.R_base ho0) hb) (aC (Kd.R_lower (Kd.R_new' (Kd.R_new' (Kd.R_new' (Kd.R_new' ho0 (Kd.R_lt (rU HO553.out))) (Kd.R_lt (rU HO557.out))) (Kd.R_lt (rU HO563.out))) (Kd.R_lt (rU HO566.out))) bz) (aC (blk_below (bU BK550.out) hb) (aE (bs hb))))))); clear HO553 HO557 HO563 HO566 BK550 HB; obtain ⟨HO553, HO557, HO563, HO566, HO570, BK550, HB⟩ := n_; (try clear hb); (try clear ho0); obtain ⟨Ao32, co32, eo32⟩ := Kd.R_slice HO570.out; subst eo32) | (go_at_call 27; (with_reducible refine (incunableref04_Packed.calls k _ _ t568 t571 _ ?side1 ?side2 A13.out).mono ?_); (case side1 => exact cU (Kd.R_reads' HO570.out).2.2); (case side2 => exact (Kd.R_reads' HO570.out).2.1); rintro e w33 ⟨v572, rfl, ho0, hb⟩; have n_ := aC (Kd.R_elder' (rU HO553.out) (Kd.R_base ho0) hb) (aC (Kd.R_elder' (rU HO557.out) (Kd.R_base ho0) hb) (aC (Kd.R_elder' (rU HO563.out) (Kd.R_base ho0) hb) (aC (Kd.R_elder' (rU HO566.out) (Kd.R_base ho0) hb) (aC (Kd.R_elder' (rU HO570.out) (Kd.R_base ho0) hb) (aC (Kd.R_lower (Kd.R_new' (Kd.R_new' (Kd.R_new' (Kd.R_new' (Kd.R_new' ho0 (Kd.R_lt (rU HO553.out))) (Kd.R_lt (rU HO557.out))) (Kd.R_lt (rU HO563.out))) (Kd.R_lt (rU HO566.out))) (Kd.R_lt (rU HO570.out))) bz) (aC (blk_below (bU BK550.out) hb) (aE (bs hb)))))))); clear HO553 HO557 HO563 HO566 HO570 BK550 HB; obtain ⟨HO553, HO557, HO563, HO566, HO570, HO573, BK550, HB⟩ := n_; (try clear hb); (try clear ho0); obtain ⟨Ao34, co34, eo34⟩ := Kd.R_slice HO557.out; subst eo34; obtain ⟨Ao35, co35, eo35⟩ := Kd.R_slice HO573.out; subst eo35) | (go_at_call 14; (with_reducible refine (incunableref02_SameBytes.calls k _ _ t555 _ _ t571 true _ ?side1 ?side2 ?side3 ?side4 A14.out).mono ?_); (case side1 => exact cU (Kd.R_reads' HO557.out).2.2); (case side2 => exact (Kd.R_reads' HO557.out).2.1); (case side3 => exact cU (Kd.R_reads' HO573.out).2.2); (case side4 => exact (Kd.R_reads' HO573.out).2.1); rintro e w' ⟨rfl, ⟨nd, rfl⟩⟩) | (go_at_call 13; (with_reducible refine (incunablelaw06_Awake.calls k  t575 _ (TIs.on HTI) A16.out).mono ?_); rintro e w36 ⟨rfl, hb⟩; have n_ := aC (Kd.R_below (rU HO553.out) hb) (aC (Kd.R_below (rU HO557.out) hb) (aC (Kd.R_below (rU HO563.out) hb) (aC (Kd.R_below (rU HO566.out) hb) (aC (Kd.R_below (rU HO570.out) hb) (aC (Kd.R_below (rU HO573.out) hb) (aC (blk_below (bU BK550.out) hb) (aE (bs hb)))))))); clear HO553 HO557 HO563 HO566 HO570 HO573 BK550 HB; obtain ⟨HO553, HO557, HO563, HO566, HO570, HO573, BK550, HB⟩ := n_; (try clear hb)))
      go_ret
      exact ⟨re, bl⟩
     ·replace c15 := Bool.eq_false_iff.mpr c15
      subst c15
      have H1 : (some false) = some r := by rw [if_neg (show ¬ (false = true) by decide)] at H; exact H
      clear H
      have H := H1
      clear H1
      exact absurd ((Option.some.inj H).trans HR_.out) (by decide)
    ·replace c11 := Bool.eq_false_iff.mpr c11
     subst c11
     have H1 : (some false) = some r := by rw [if_neg (show ¬ (false = true) by decide)] at H; exact H
     clear H
     have H := H1
     clear H1
     exact absurd ((Option.some.inj H).trans HR_.out) (by decide)
   ·rw [if_neg c7] at H
    have c7b0 := beq_eq_false_iff_ne.mpr c7
    have c7b1 := bne_iff_ne.mpr c7
    exact absurd ((Option.some.inj H).trans HR_.out) (by decide)
  ·rw [if_neg c6] at H
   have c6b0 := beq_eq_false_iff_ne.mpr c6
   have c6b1 := bne_iff_ne.mpr c6
   exact absurd ((Option.some.inj H).trans HR_.out) (by decide)
 ·replace c5 := Bool.eq_false_iff.mpr c5
  subst c5
  have H1 : (if (t551.length : Int) = 0 then (if (t555.length : Int) = 0 then (if t554 = 30 then (if t558 = 30 then ((incunablelaw06_Awake.f k).bind fun t560 => (some t560)) else (some false)) else (some false)) else (some false)) else (some false)) = some r := by rw [if_neg (show ¬ (false = true) by decide)] at H; exact H
  clear H
  have H := H1
  clear H1
  by_cases c37 : (t551.length : Int) = 0
  ·rw [if_pos c37] at H
   have c37b0 := beq_iff_eq.mpr c37
   have c37b1 := bne_eq_false_iff_eq.mpr c37
   clear c37
   by_cases c38 : (t555.length : Int) = 0
   ·rw [if_pos c38] at H
    have c38b0 := beq_iff_eq.mpr c38
    have c38b1 := bne_eq_false_iff_eq.mpr c38
    clear c38
    by_cases c39 : t554 = 30
    ·rw [if_pos c39] at H
     have c39b0 := beq_iff_eq.mpr c39
     have c39b1 := bne_eq_false_iff_eq.mpr c39
     clear c39
     by_cases c40 : t558 = 30
     ·rw [if_pos c40] at H
      have c40b0 := beq_iff_eq.mpr c40
      have c40b1 := bne_eq_false_iff_eq.mpr c40
      clear c40
      replace H := Option.bind_eq_some_iff.mp H
      obtain ⟨t560, A410, H⟩ := H
      replace H : (some t560) = some r := H
      have A41 := Aside0.mk A410
      clear A410
      obtain rfl := Option.some.inj H
      go_enter Tryd.func7, Tryd.ntmps7
      go_wp2_with (first | ((with_reducible refine gd 1 rfl ?_); (try (refine gate_guard (by rfl) ?_; dsimp only)); refine bx 1 #[.int .i64 a0_0, .int .i64 a0_1, .slice A0_2 l0_2.length c0_2] 48 rfl rfl ?_; intro gb550 hg w42 hbox hb; have n_ := aC (bs hb) (aC hbox (aC (gz hg) (aE (gz hg)))); clear HB; obtain ⟨HB, BK550, GW550, GE550⟩ := n_; clear hb hbox hg; obtain ⟨hcz43_0, hcz43_1, hcz43_2, hfz43_0, hfz43_1, hfz43_2⟩ := cz3f BK550.out) | ((with_reducible refine gf 24 rfl ?_); refine gL (some 9) rfl rfl Tryd.func24 rfl #[.agg #[.int .i64 a0_0, .int .i64 a0_1, .slice A0_2 l0_2.length c0_2]] rfl ?_; (with_reducible refine (runs_One.calls k a0_0 a0_1 _ _ l0_2 t551 t554 _ ?side1 ?side2 A2.out).mono ?_); (case side1 => exact cU (Kd.C_below HR0_2.out HB.out)); (case side2 => exact HC0_2.out); rintro e w44 ⟨v552, rfl, ho0, hb⟩; refine ⟨_, rfl, ?_⟩; have n_ := aC (Kd.R_lower ho0 bz) (aC (blk_below (bU BK550.out) hb) (aE (bs hb))); clear BK550 HB; obtain ⟨HO553, BK550, HB⟩ := n_; (try clear hb); (try clear ho0); obtain ⟨hcz45_0, hcz45_1, hcz45_2, hfz45_0, hfz45_1, hfz45_2⟩ := cz3f BK550.out) | ((with_reducible refine gf 25 rfl ?_); refine gL (some 14) rfl rfl Tryd.func25 rfl #[.agg #[.int .i64 a0_0, .int .i64 a0_1, .slice A0_2 l0_2.length c0_2]] rfl ?_; (with_reducible refine (runs_Two.calls k a0_0 a0_1 _ _ l0_2 t555 t558 _ ?side1 ?side2 A3.out).mono ?_); (case side1 => exact cU (Kd.C_below HR0_2.out HB.out)); (case side2 => exact HC0_2.out); rintro e w46 ⟨v556, rfl, ho0, hb⟩; refine ⟨_, rfl, ?_⟩; have n_ := aC (Kd.R_elder' (rU HO553.out) (Kd.R_base ho0) hb) (aC (Kd.R_lower (Kd.R_new' ho0 (Kd.R_lt (rU HO553.out))) bz) (aC (blk_below (bU BK550.out) hb) (aE (bs hb)))); clear HO553 BK550 HB; obtain ⟨HO553, HO557, BK550, HB⟩ := n_; (try clear hb); (try clear ho0); obtain ⟨hcz47_0, hcz47_1, hcz47_2, hfz47_0, hfz47_1, hfz47_2⟩ := cz3f BK550.out) | ((with_reducible refine gf 26 rfl ?_); refine gL (some 18) rfl rfl Tryd.func26 rfl #[.agg #[.int .i64 a0_0, .int .i64 a0_1, .slice A0_2 l0_2.length c0_2]] rfl ?_; (with_reducible refine (incunableref06_IsBitmap.calls k a0_0 a0_1 _ _ l0_2 false _ ?side1 ?side2 A4.out).mono ?_); (case side1 => exact cU (Kd.C_below HR0_2.out HB.out)); (case side2 => exact HC0_2.out); rintro e w48 ⟨rfl, hb⟩; refine ⟨_, rfl, ?_⟩; have n_ := aC (Kd.R_below (rU HO553.out) hb) (aC (Kd.R_below (rU HO557.out) hb) (aC (blk_below (bU BK550.out) hb) (aE (bs hb)))); clear HO553 HO557 BK550 HB; obtain ⟨HO553, HO557, BK550, HB⟩ := n_; (try clear hb); obtain ⟨Ao49, co49, eo49⟩ := Kd.R_slice HO553.out; subst eo49; obtain ⟨Ao50, co50, eo50⟩ := Kd.R_slice HO557.out; subst eo50) | (go_at_call 13; (with_reducible refine (incunablelaw06_Awake.calls k  t560 _ (TIs.on HTI) A41.out).mono ?_); rintro e w51 ⟨rfl, hb⟩; have n_ := aC (Kd.R_below (rU HO553.out) hb) (aC (Kd.R_below (rU HO557.out) hb) (aC (blk_below (bU BK550.out) hb) (aE (bs hb)))); clear HO553 HO557 BK550 HB; obtain ⟨HO553, HO557, BK550, HB⟩ := n_; (try clear hb)))
      go_ret
      exact ⟨re, bl⟩
     ·rw [if_neg c40] at H
      have c40b0 := beq_eq_false_iff_ne.mpr c40
      have c40b1 := bne_iff_ne.mpr c40
      exact absurd ((Option.some.inj H).trans HR_.out) (by decide)
    ·rw [if_neg c39] at H
     have c39b0 := beq_eq_false_iff_ne.mpr c39
     have c39b1 := bne_iff_ne.mpr c39
     exact absurd ((Option.some.inj H).trans HR_.out) (by decide)
   ·rw [if_neg c38] at H
    have c38b0 := beq_eq_false_iff_ne.mpr c38
    have c38b1 := bne_iff_ne.mpr c38
    have c38b2 : ¬ (t555 = []) := fun h_ => c38 (by rw [h_]; rfl)
    exact absurd ((Option.some.inj H).trans HR_.out) (by decide)
  ·rw [if_neg c37] at H
   have c37b0 := beq_eq_false_iff_ne.mpr c37
   have c37b1 := bne_iff_ne.mpr c37
   have c37b2 : ¬ (t551 = []) := fun h_ => c37 (by rw [h_]; rfl)
   exact absurd ((Option.some.inj H).trans HR_.out) (by decide)

/-- THE ONE PURE STATEMENT of incunablelaw06_RunsCodes: yours. -/
def incunablelaw06_RunsCodes.Pure : Prop := ∀ (a0_0 : Int) (a0_1 : Int) (l0_2 : List Int), ((Lit.int .i64 a0_0).wf = true) → ((Lit.int .i64 a0_1).wf = true) → (l0_2.length ≤ 9223372036854775807 ∧ l0_2.length * 1 ≤ 140737488351232 ∧ ∀ y0_ ∈ l0_2, (Lit.int .u8 y0_).wf = true) → ∃ k, incunablelaw06_RunsCodes.f k a0_0 a0_1 l0_2 = some true
theorem incunablelaw06_RunsCodes.walk (P : incunablelaw06_RunsCodes.Pure) (a0_0 : Int) (a0_1 : Int) (A0_2 : Option Addr) (c0_2 : Nat) (l0_2 : List Int) (w : World) (hT0 : TIs w) (hr0_2 : Kd.C (Kd.int .u8) w A0_2 l0_2.length l0_2) (hc0_2 : l0_2.length ≤ c0_2) (g0_0 : (Lit.int .i64 a0_0).wf = true) (g0_1 : (Lit.int .i64 a0_1).wf = true) (g0_2 : l0_2.length ≤ 9223372036854775807 ∧ l0_2.length * 1 ≤ 140737488351232 ∧ ∀ y0_ ∈ l0_2, (Lit.int .u8 y0_).wf = true) :
  Calls Tryd.prog 7 #[.agg #[.int .i64 a0_0, .int .i64 a0_1, .slice A0_2 l0_2.length c0_2]] w fun e w' => e = .returned (.bool true) ∧ Below w.heap.size w w' := by
 obtain ⟨k, h⟩ := P a0_0 a0_1 l0_2 g0_0 g0_1 g0_2
 refine (incunablelaw06_RunsCodes.calls k a0_0 a0_1 A0_2 c0_2 l0_2 true w hT0 hr0_2 hc0_2 h rfl).mono ?_
 rintro e w' ⟨rfl, hd⟩
 exact ⟨rfl, hd⟩

end Go.Proofs.YtknclbodinfbeaaDoor.PRunsCodes
