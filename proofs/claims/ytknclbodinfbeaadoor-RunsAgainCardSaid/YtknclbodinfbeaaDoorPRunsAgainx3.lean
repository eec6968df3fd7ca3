-- Written by a program of this session (wip/tools/myprint.py) over the kit's print. Not trusted: Lean checks it.
import Derived.Test.YtknclbodinfbeaaDoorPRunsAgainx0
import Derived.Test.YtknclbodinfbeaaDoorPRunsAgainx1
import Derived.Test.YtknclbodinfbeaaDoorPRunsAgainx2
namespace Go.Proofs.YtknclbodinfbeaaDoor.PRunsAgain
open Go.RowKit Go.Proofs.YtknclbodinfbeaaDoorW.PrintWords Go.Proofs.YtknclbodinfbeaaDoorW.PrintLast Go.Proofs.YtknclbodinfbeaaDoorW.PrintMore
attribute [local go_sem] max2_int min2_int max_two min_two max_three min_three max_four min_four   -- for this text's walks alone
set_option linter.unusedVariables false
set_option linter.unusedSimpArgs false

/-! ### prefix_put: function 87 -/
def prefix_put.f (k : Nat) (l0 : List (S87)) (l1 : List (S154)) (a2_0 : Bool) (a2_1 : Int) : Option (List Int × Int) := (prefix_line.f k l0 a2_0 a2_1).bind fun bt147 => (if bt147.1 < 0 then (some (([] : List Int), 5)) else (if 0 ≤ bt147.1 then (if bt147.1 < (l1.length : Int) then ((prefix_digits.f k ((rd_T154 l1 bt147.1).f0) ((rd_T154 l1 bt147.1).f1)).bind fun t151 => (if bt147.1 < (l0.length : Int) then ((prefix_digits.f k bt147.2 ((rd_T87 l0 bt147.1).f1)).bind fun t155 => (if t151.length + t155.length < 140737488355328 then (some ((t151 ++ t155), 0)) else (none))) else (none))) else (none)) else (none)))
theorem prefix_put.mono : ∀ a0 a1 a2 a3 k, LeO (prefix_put.f k a0 a1 a2 a3) (prefix_put.f (k + 1) a0 a1 a2 a3) := by
 intro a0 a1 a2 a3 k
 unfold prefix_put.f
 repeat' first
   | (with_reducible exact prefix_digits.mono _ _ _)
   | (with_reducible exact prefix_line.mono _ _ _ _)
   | (with_reducible first | exact LeO.refl _ | exact LeO.none _ | refine LeO.ite ?_ ?_ | refine LeO.bind ?_ (fun _ => ?_))
   | exact prefix_digits.mono _ _ _
   | exact prefix_line.mono _ _ _ _
   | exact LeO.none _ | refine LeO.ite ?_ ?_ | refine LeO.bind ?_ (fun _ => ?_)
def prefix_put.T4 : Bool × List (List Nat × List Nat) := (true, [([], []), ([], []), ([0, 1], [0, 1]), ([2], [2]), ([3], [3]), ([], []), ([], []), ([5, 6], [5, 6]), ([7], [7]), ([8], [8]), ([4, 9], [4, 9]), ([], []), ([], []), ([], []), ([12, 13], [12, 13]), ([14], [14]), ([15], [15]), ([11, 16, 10], [11, 16]), ([10, 17, 17], [10, 17]), ([18, 18, 0, 1, 2, 3, 4, 5, 6, 7, 8, 9, 10, 11, 12, 13, 14, 15, 16, 17, 18], [18]), ([19, 0, 1, 2, 3, 4, 5, 6, 7, 8, 9, 10, 11, 12, 13, 14, 15, 16, 17, 18, 19], [])])
def prefix_put.B4 : List Nat := [0, 0, 3, 7, 15, 0, 0, 96, 224, 480, 1023, 0, 0, 0, 12288, 28672, 61440, 131071, 262143, 524287, 1048575]
theorem prefix_put.tab4 : rtab .any (opsOf Tryd.f87 4) = prefix_put.T4 := by kernel_rfl
theorem prefix_put.bits4 : waitsOk prefix_put.T4.2 prefix_put.B4 = true := by kernel_rfl
set_option maxHeartbeats 8000000 in
set_option maxRecDepth 100000 in
theorem prefix_put.calls (k : Nat) (A0 : Option Addr) (c0 : Nat) (l0 : List (S87)) (A1 : Option Addr) (c1 : Nat) (l1 : List (S154)) (a2_0 : Bool) (a2_1 : Int) (r1 : List Int) (r2 : Int) (w : World) (hr0 : Kd.C k87 w A0 l0.length l0) (hc0 : l0.length ≤ c0) (hr1 : Kd.C k154 w A1 l1.length l1) (hc1 : l1.length ≤ c1) (h : prefix_put.f k l0 l1 a2_0 a2_1 = some (r1, r2)) :
  Calls Tryd.prog 87 #[.slice A0 l0.length c0, .slice A1 l1.length c1, .agg #[.bool a2_0, .int .i64 a2_1]] w fun e w' => ∃ v0_ : Value, e = .returned (.tuple #[v0_, .int .i64 r2]) ∧ Kd.R (Kd.int .u8) 5 w' w.heap.size (fun _ => True) v0_ r1 ∧ Below w.heap.size w w' := by
 have hu64 := Tryd.underlying64
 have HR0 := Aside0.mk hr0
 have HC0 := Aside0.mk hc0
 clear hr0 hc0
 have HR1 := Aside0.mk hr1
 have HC1 := Aside0.mk hc1
 clear hr1 hc1
 have HB := Aside0.mk (Below.refl w.heap.size w)
 have H : ((prefix_line.f k l0 a2_0 a2_1).bind fun bt147 => (if bt147.1 < 0 then (some (([] : List Int), 5)) else (if 0 ≤ bt147.1 then (if bt147.1 < (l1.length : Int) then ((prefix_digits.f k ((rd_T154 l1 bt147.1).f0) ((rd_T154 l1 bt147.1).f1)).bind fun t151 => (if bt147.1 < (l0.length : Int) then ((prefix_digits.f k bt147.2 ((rd_T87 l0 bt147.1).f1)).bind fun t155 => (if t151.length + t155.length < 140737488355328 then (some ((t151 ++ t155), 0)) else (none))) else (none))) else (none)) else (none)))) = some (r1, r2) := h
 clear h
 replace H := Option.bind_eq_some_iff.mp H
 obtain ⟨⟨t147, t148⟩, A40, H⟩ := H
 replace H : (if t147 < 0 then (some (([] : List Int), 5)) else (if 0 ≤ t147 then (if t147 < (l1.length : Int) then ((prefix_digits.f k ((rd_T154 l1 t147).f0) ((rd_T154 l1 t147).f1)).bind fun t151 => (if t147 < (l0.length : Int) then ((prefix_digits.f k t148 ((rd_T87 l0 t147).f1)).bind fun t155 => (if t151.length + t155.length < 140737488355328 then (some ((t151 ++ t155), 0)) else (none))) else (none))) else (none)) else (none))) = some (r1, r2) := H
 have A4 := Aside0.mk A40
 clear A40
 by_cases c5 : t147 < 0
 ·rw [if_pos c5] at H
  have c5b0 := decide_eq_true c5
  clear c5
  simp only [Option.some.injEq, Prod.mk.injEq] at H
  obtain ⟨rfl, rfl⟩ := H
  go_enter Tryd.func87, Tryd.ntmps87
  go_wp2_with (first | ((with_reducible refine gd 5 rfl ?_); refine bx 5 #[.bool a2_0, .int .i64 a2_1] 64 rfl rfl ?_; intro gb146 hg w6 hbox hb; have n_ := aC (bs hb) (aC hbox (aC (gz hg) (aE (gz hg)))); clear HB; obtain ⟨HB, BK146, GW146, GE146⟩ := n_; clear hb hbox hg; obtain ⟨hcz7_0, hcz7_1, hfz7_0, hfz7_1⟩ := cz2f BK146.out) | ((with_reducible refine gf 107 rfl ?_); refine gL (some 13) rfl rfl Tryd.func107 rfl #[.slice A0 l0.length c0, .agg #[.bool a2_0, .int .i64 a2_1]] rfl ?_; (with_reducible refine (prefix_line.calls k _ _ l0 a2_0 a2_1 t147 t148 _ ?side1 ?side2 A4.out).mono ?_); (case side1 => exact cU (Kd.C_below HR0.out HB.out)); (case side2 => exact HC0.out); rintro e w8 ⟨rfl, hb⟩; refine ⟨_, rfl, ?_⟩; have n_ := aC (blk_below (bU BK146.out) hb) (aE (bs hb)); clear BK146 HB; obtain ⟨BK146, HB⟩ := n_; (try clear hb)))
  go_ret2
  exact ⟨_, re, by first | exact Kd.R_nil _ _ _ _ _ | exact Kd.N_nil _ _ _ _ _ | exact Kd.V_nil _ _ _ _ _ | exact Kd.Q_nil _ _ _ _ _ | exact Kd.S_nil _ _ _ _ _, bl⟩
 ·rw [if_neg c5] at H
  have c5b0 := decide_eq_false c5
  clear c5
  by_cases c9 : 0 ≤ t147
  ·rw [if_pos c9] at H
   have c9b0 := decide_eq_true c9
   clear c9
   by_cases c10 : t147 < (l1.length : Int)
   ·rw [if_pos c10] at H
    have c10b0 := decide_eq_true c10
    clear c10
    replace H := Option.bind_eq_some_iff.mp H
    obtain ⟨t151, A110, H⟩ := H
    replace H : (if t147 < (l0.length : Int) then ((prefix_digits.f k t148 ((rd_T87 l0 t147).f1)).bind fun t155 => (if t151.length + t155.length < 140737488355328 then (some ((t151 ++ t155), 0)) else (none))) else (none)) = some (r1, r2) := H
    have A11 := Aside0.mk A110
    clear A110
    by_cases c12 : t147 < (l0.length : Int)
    ·rw [if_pos c12] at H
     have c12b0 := decide_eq_true c12
     clear c12
     replace H := Option.bind_eq_some_iff.mp H
     obtain ⟨t155, A130, H⟩ := H
     replace H : (if t151.length + t155.length < 140737488355328 then (some ((t151 ++ t155), 0)) else (none)) = some (r1, r2) := H
     have A13 := Aside0.mk A130
     clear A130
     by_cases c14 : t151.length + t155.length < 140737488355328
     ·rw [if_pos c14] at H
      have LMc14 := Aside0.mk c14
      clear c14
      obtain ⟨y158, hy_⟩ : ∃ y_ : List Int, y_ = (t151 ++ t155) := ⟨_, rfl⟩
      replace H : (some (y158, 0)) = some (r1, r2) := rh
      have Ny158 := aE hy_
      clear hy_
      simp only [Option.some.injEq, Prod.mk.injEq] at H
      obtain ⟨rfl, rfl⟩ := H
      go_enter Tryd.func87, Tryd.ntmps87
      try go_wp2_with (first | ((with_reducible refine gd 5 rfl ?_); refine bx 5 #[.bool a2_0, .int .i64 a2_1] 64 rfl rfl ?_; intro gb146 hg w15 hbox hb; have n_ := aC (bs hb) (aC hbox (aC (gz hg) (aE (gz hg)))); clear HB; obtain ⟨HB, BK146, GW146, GE146⟩ := n_; clear hb hbox hg; obtain ⟨hcz16_0, hcz16_1, hfz16_0, hfz16_1⟩ := cz2f BK146.out) | ((with_reducible refine gf 107 rfl ?_); refine gL (some 13) rfl rfl Tryd.func107 rfl #[.slice A0 l0.length c0, .agg #[.bool a2_0, .int .i64 a2_1]] rfl ?_; (with_reducible refine (prefix_line.calls k _ _ l0 a2_0 a2_1 t147 t148 _ ?side1 ?side2 A4.out).mono ?_); (case side1 => exact cU (Kd.C_below HR0.out HB.out)); (case side2 => exact HC0.out); rintro e w17 ⟨rfl, hb⟩; refine ⟨_, rfl, ?_⟩; have n_ := aC (blk_below (bU BK146.out) hb) (aE (bs hb)); clear BK146 HB; obtain ⟨BK146, HB⟩ := n_; (try clear hb)))
      have n_ := aC (blk_drew BK146.out) (aE (below_drew1 HB.out))
      clear BK146 HB
      obtain ⟨BK146, HB⟩ := n_
      have p149 : 0 ≤ (t147 : Int) := dt
      have q149 : t147 < (l1.length : Int) := dt
      obtain ⟨ad149, e149, hx149_0, hx149_1⟩ := at_T154 HR1.out t147 p149 q149
      have hw149_1 := hx149_1
      have hw149_0 := hx149_0
      cases e149
      replace hx149_0 := hcB HB.out hx149_0
      replace hx149_1 := hcB HB.out hx149_1
      replace p149 := eq_true p149
      replace q149 := eq_true q149
      have p150 : 0 ≤ (t147 : Int) := dt
      have q150 : t147 < (l1.length : Int) := dt
      obtain ⟨ad150, e150, hx150_0, hx150_1⟩ := at_T154 HR1.out t147 p150 q150
      have hw150_1 := hx150_1
      have hw150_0 := hx150_0
      obtain rfl : ad149 = ad150 := (by injection e150)
      replace hx150_0 := hcB HB.out hx150_0
      replace hx150_1 := hcB HB.out hx150_1
      replace p150 := eq_true p150
      replace q150 := eq_true q150
      have p154 : 0 ≤ (t147 : Int) := dt
      have q154 : t147 < (l0.length : Int) := dt
      obtain ⟨ad154, e154, hx154_0, hx154_1, hx154_2, hx154_3⟩ := at_T87 HR0.out t147 p154 q154
      have hw154_3 := hx154_3
      have hw154_2 := hx154_2
      have hw154_1 := hx154_1
      have hw154_0 := hx154_0
      cases e154
      replace hx154_0 := hcB HB.out hx154_0
      replace hx154_1 := hcB HB.out hx154_1
      replace hx154_2 := hcB HB.out hx154_2
      replace hx154_3 := hcB HB.out hx154_3
      replace p154 := eq_true p154
      replace q154 := eq_true q154
      refine st 21 (fun w' => w'.cell? (ad149.add ((t147).toNat * 2)) = some (.int .i64 ((rd_T154 l1 t147).f0)) ∧ w'.cell? ⟨(ad149.add ((t147).toNat * 2)).block, (ad149.add ((t147).toNat * 2)).off + 1, none⟩ = some (.int .i64 ((rd_T154 l1 t147).f1)) ∧ w'.cell? (ad149.add ((t147).toNat * 2)) = some (.int .i64 ((rd_T154 l1 t147).f0)) ∧ w'.cell? ⟨(ad149.add ((t147).toNat * 2)).block, (ad149.add ((t147).toNat * 2)).off + 1, none⟩ = some (.int .i64 ((rd_T154 l1 t147).f1)) ∧ w'.cell? (ad154.add ((t147).toNat * 4)) = some (.int .i64 ((rd_T87 l0 t147).f0)) ∧ w'.cell? ⟨(ad154.add ((t147).toNat * 4)).block, (ad154.add ((t147).toNat * 4)).off + 1, none⟩ = some (.int .i64 ((rd_T87 l0 t147).f1)) ∧ w'.cell? ⟨(ad154.add ((t147).toNat * 4)).block, (ad154.add ((t147).toNat * 4)).off + 2, none⟩ = some (.int .i64 ((rd_T87 l0 t147).f2)) ∧ w'.cell? ⟨(ad154.add ((t147).toNat * 4)).block, (ad154.add ((t147).toNat * 4)).off + 3, none⟩ = some (.int .i64 ((rd_T87 l0 t147).f3))) [] (bv 21 0) prefix_put.tab4 prefix_put.bits4 ⟨(hcB HB.out hw149_0), (hcB HB.out hw149_1), (hcB HB.out hw150_0), (hcB HB.out hw150_1), (hcB HB.out hw154_0), (hcB HB.out hw154_1), (hcB HB.out hw154_2), (hcB HB.out hw154_3)⟩ (fun hHeld HT_ HW_ => ?_)
      generalize w17.drew = w18 at BK146 HB hx149_0 hx149_1 hx150_0 hx150_1 hx154_0 hx154_1 hx154_2 hx154_3 hHeld ⊢
      refine pu 0 18 (bv 21 1) HT_ rfl rfl ?_
      refine pu 1 19 (bv 21 3) HT_ rfl rfl ?_
      refine pu 2 20 (bv 21 7) HT_ rfl rfl ?_
      refine pu 3 21 (bv 21 15) HT_ rfl rfl ?_
      refine pu 5 23 (bv 21 47) HT_ rfl rfl ?_
      refine pu 6 24 (bv 21 111) HT_ rfl rfl ?_
      refine pu 7 25 (bv 21 239) HT_ rfl rfl ?_
      refine pu 8 26 (bv 21 495) HT_ rfl rfl ?_
      refine pu 11 29 (bv 21 2543) HT_ rfl rfl ?_
      refine pu 12 30 (bv 21 6639) HT_ rfl rfl ?_
      refine pu 13 31 (bv 21 14831) HT_ rfl rfl ?_
      refine pu 14 32 (bv 21 31215) HT_ rfl rfl ?_
      refine pu 15 33 (bv 21 63983) HT_ rfl rfl ?_
      refine tk 4 22 (bv 21 63999) HT_ HW_ hHeld rfl rfl (by rintro w' ⟨s0, s1, s2, s3, s4, s5, s6, s7⟩; exact yl) ?_
      refine tk 9 27 (bv 21 64511) HT_ HW_ hHeld rfl rfl (by rintro w' ⟨s0, s1, s2, s3, s4, s5, s6, s7⟩; exact yl) ?_
      refine tk 16 34 (bv 21 130047) HT_ HW_ hHeld rfl rfl (by rintro w' ⟨s0, s1, s2, s3, s4, s5, s6, s7⟩; exact yl) ?_
      refine one_ (i := 10) (N := some 28) (bv 21 131071) rfl rfl (one_of HT_.out (by kernel_rfl)) (by decide) (fun K hK => ?_)
      refine gK Tryd.func108 rfl #[.int .i64 ((rd_T154 l1 t147).f0), .int .i64 ((rd_T154 l1 t147).f1)] rfl rfl ?_
      with_reducible refine (prefix_digits.calls k ((rd_T154 l1 t147).f0) ((rd_T154 l1 t147).f1) t151 _ A11.out).mono ?_
      rintro e w19 ⟨v152, rfl, ho0, hb⟩
      refine ⟨_, rfl, ?_⟩
      have n_ := aC (Kd.R_lower ho0 bz) (aC (blk_below (bU BK146.out) hb) (aE (bs hb)))
      clear BK146 HB
      obtain ⟨HO153, BK146, HB⟩ := n_
      (try clear hb)
      (try clear hb2)
      (try clear hk)
      (try clear hi)
      (try clear ho0)
      refine hK.out _ _ ⟨(hcB HB.out hw149_0), (hcB HB.out hw149_1), (hcB HB.out hw150_0), (hcB HB.out hw150_1), (hcB HB.out hw154_0), (hcB HB.out hw154_1), (hcB HB.out hw154_2), (hcB HB.out hw154_3)⟩ (fun hHeld => ?_)
      clear hK K
      refine nm (some 28) ?_
      refine one_ (i := 17) (N := some 35) (bv 21 262143) rfl rfl (one_of HT_.out (by kernel_rfl)) (by decide) (fun K hK => ?_)
      refine gK Tryd.func108 rfl #[.int .i64 t148, .int .i64 ((rd_T87 l0 t147).f1)] rfl rfl ?_
      with_reducible refine (prefix_digits.calls k t148 ((rd_T87 l0 t147).f1) t155 _ A13.out).mono ?_
      rintro e w20 ⟨v156, rfl, ho0, hb⟩
      refine ⟨_, rfl, ?_⟩
      have n_ := aC (Kd.R_elder' (rU HO153.out) (Kd.R_base ho0) hb) (aC (Kd.R_lower (Kd.R_new' ho0 (Kd.R_lt (rU HO153.out))) bz) (aC (blk_below (bU BK146.out) hb) (aE (bs hb))))
      clear HO153 BK146 HB
      obtain ⟨HO153, HO157, BK146, HB⟩ := n_
      (try clear hb)
      (try clear hb2)
      (try clear hk)
      (try clear hi)
      (try clear ho0)
      obtain ⟨Ao22, co22, eo22⟩ := Kd.R_slice HO157.out
      (first | subst eo22 | (injection eo22 with f1_ f2_ f3_; have f4_ := f1_.symm; have f5_ := f3_.symm; clear f1_ f2_ f3_; subst f4_; subst f5_))
      refine hK.out _ _ ⟨(hcB HB.out hw149_0), (hcB HB.out hw149_1), (hcB HB.out hw150_0), (hcB HB.out hw150_1), (hcB HB.out hw154_0), (hcB HB.out hw154_1), (hcB HB.out hw154_2), (hcB HB.out hw154_3)⟩ (fun hHeld => ?_)
      clear hK K
      refine nm (some 35) ?_
      refine one_ (i := 18) (N := some 36) (bv 21 524287) rfl rfl (one_of HT_.out (by kernel_rfl)) (by decide) (fun K hK => ?_)
      refine Kd.R_append_rows_step (Kd.int .u8) (w0 := w) w.heap.size (by rfl) (.tmp 28) (.tmp 35) 22 5 (.int .u8 0) 1 rfl Tryd.underlying22 info5 rfl (by decide) (by omega) v152 t151 t155 _ _ _ (fun k_ => some k_ ≠ (.slice Ao22 t155.length co22 : Value).ownBlock) (fun _ => False) rfl rfl ?aO ?aR (fun _ _ h => h) (fun _ h => h.elim) ?aF ?aB ?aS ?aL ?_
      (case aR => repeat (first | exact (Kd.R_reads' HO157.out).2.2 | (with_reducible refine Kd.C_alloc ?_ _) | (with_reducible refine Kd.C_drewN ?_ _) | (with_reducible refine Kd.C_drew ?_)))
      (case aB => exact bl)
      (case aF => exact (fun k_ hk => Kd.fresh' (Kd.R_lt (rU HO157.out)) k_ hk))
      (case aO => exact (rU (Kd.R_mono HO153.out (fun _ hk => hk.2))))
      (case aS => exact bz)
      (case aL => have := LMc14.out; omega)
      intro v159 w21 ho hb hg hat
      rw [← Ny158.out] at ho
      have n_ := aC (blk_grown (bU BK146.out) hg (Kd.R_ne HO153.out BK146.out (by decide))) (aC (Kd.R_after (ok := (fun _ => True)) (rU HO157.out) hg hat) (aC hb (aE ho)))
      clear BK146 HO157 HB HO153
      obtain ⟨BK146, HO157, HB, HO160⟩ := n_
      clear ho hb hg hat
      refine hK.out _ _ ⟨(hcB HB.out hw149_0), (hcB HB.out hw149_1), (hcB HB.out hw150_0), (hcB HB.out hw150_1), (hcB HB.out hw154_0), (hcB HB.out hw154_1), (hcB HB.out hw154_2), (hcB HB.out hw154_3)⟩ (fun hHeld => ?_)
      clear hK K
      refine nm (some 36) ?_
      refine pu 19 6 (bv 21 1048575) HT_ rfl rfl ?_
      refine pu 20 7 (bv 21 2097151) HT_ rfl rfl ?_
      refine done_ (done_of HT_.out (by kernel_rfl)) ?_
      try go_wp2
      go_ret2
      exact ⟨_, re, rU (Kd.R_mono HO160.out (fun _ hk => trivial)), bl⟩
     ·rw [if_neg c14] at H
      exact absurd H (by simp)
    ·rw [if_neg c12] at H
     exact absurd H (by simp)
   ·rw [if_neg c10] at H
    exact absurd H (by simp)
  ·rw [if_neg c9] at H
   exact absurd H (by simp)

/-! ### prefix_codes: function 88 -/
mutual
def prefix_codes.l0 : Nat → List (S87) → List (S154) → Int → Int → Int → Option ((List (S154)))
 | 0, _, _, _, _, _ => none
 | k + 1, x0, x3, x5, x165000, x165001 => if x5 ≤ 15 then (if 0 ≤ (wrap64 (x5 - x165001)) then (prefix_codes.l1 k x0 x3 x5 x0 (x0.length : Int) 0 (shl .i64 x165000 (wrap64 (x5 - x165001))) x5) else (none)) else (some x3)
def prefix_codes.l1 : Nat → List (S87) → List (S154) → Int → List (S87) → Int → Int → Int → Int → Option ((List (S154)))
 | 0, _, _, _, _, _, _, _, _ => none
 | k + 1, x0, x3, x5, x25, x26, x27, x165000, x165001 => if x27 < x26 then (if 0 ≤ x27 then (if x27 < (x25.length : Int) then (if ((rd_T87 x25 x27).f0) = x5 then (if x27 < (x3.length : Int) then (prefix_codes.l1 k x0 (x3.set (x27 : Int).toNat (⟨x165000, x165001⟩ : S154)) x5 x25 x26 (wrap64 (x27 + 1)) (wrap64 (x165000 + 1)) x165001) else (none)) else (prefix_codes.l1 k x0 x3 x5 x25 x26 (wrap64 (x27 + 1)) x165000 x165001)) else (none)) else (none)) else (prefix_codes.l0 k x0 x3 (wrap64 (x5 + 1)) x165000 x165001)
end
def prefix_codes.f (k : Nat) (l0 : List (S87)) : Option ((List (S154))) := if 0 ≤ (l0.length : Int) then (if ((l0.length : Int) : Int).toNat ≤ 17592186044416 then (prefix_codes.l0 k l0 (List.replicate ((l0.length : Int) : Int).toNat z154) 1 0 1) else (none)) else (none)
theorem prefix_codes.mono_l : ∀ k, (∀ y0 y1 y2 y3 y4, LeO (prefix_codes.l0 k y0 y1 y2 y3 y4) (prefix_codes.l0 (k + 1) y0 y1 y2 y3 y4)) ∧ (∀ y0 y1 y2 y3 y4 y5 y6 y7, LeO (prefix_codes.l1 k y0 y1 y2 y3 y4 y5 y6 y7) (prefix_codes.l1 (k + 1) y0 y1 y2 y3 y4 y5 y6 y7))
 | 0 => ⟨fun _ _ _ _ _ r h => by simp [prefix_codes.l0] at h, fun _ _ _ _ _ _ _ _ r h => by simp [prefix_codes.l1] at h⟩
 | k + 1 => by
  obtain ⟨ih0, ih1⟩ := prefix_codes.mono_l k
  refine ⟨?_, ?_⟩
  ·intro y0 y1 y2 y3 y4
   unfold prefix_codes.l0
   repeat' first
   | (with_reducible exact ih0 _ _ _ _ _)
   | (with_reducible exact ih1 _ _ _ _ _ _ _ _)
   | (with_reducible first | exact LeO.refl _ | exact LeO.none _ | refine LeO.ite ?_ ?_ | refine LeO.bind ?_ (fun _ => ?_))
   | exact ih0 _ _ _ _ _
   | exact ih1 _ _ _ _ _ _ _ _
   | exact LeO.none _ | refine LeO.ite ?_ ?_ | refine LeO.bind ?_ (fun _ => ?_)
  ·intro y0 y1 y2 y3 y4 y5 y6 y7
   unfold prefix_codes.l1
   repeat' first
   | (with_reducible exact ih0 _ _ _ _ _)
   | (with_reducible exact ih1 _ _ _ _ _ _ _ _)
   | (with_reducible first | exact LeO.refl _ | exact LeO.none _ | refine LeO.ite ?_ ?_ | refine LeO.bind ?_ (fun _ => ?_))
   | exact ih0 _ _ _ _ _
   | exact ih1 _ _ _ _ _ _ _ _
   | exact LeO.none _ | refine LeO.ite ?_ ?_ | refine LeO.bind ?_ (fun _ => ?_)
theorem prefix_codes.mono : ∀ a0 k, LeO (prefix_codes.f k a0) (prefix_codes.f (k + 1) a0) := by
 intro a0 k
 obtain ⟨ih0, ih1⟩ := prefix_codes.mono_l k
 unfold prefix_codes.f
 repeat' first
   | (with_reducible exact ih0 _ _ _ _ _)
   | (with_reducible exact ih1 _ _ _ _ _ _ _ _)
   | (with_reducible first | exact LeO.refl _ | exact LeO.none _ | refine LeO.ite ?_ ?_ | refine LeO.bind ?_ (fun _ => ?_))
   | exact ih0 _ _ _ _ _
   | exact ih1 _ _ _ _ _ _ _ _
   | exact LeO.none _ | refine LeO.ite ?_ ?_ | refine LeO.bind ?_ (fun _ => ?_)
set_option maxHeartbeats 8000000 in
set_option maxRecDepth 100000 in
theorem prefix_codes.calls (k : Nat) (A0 : Option Addr) (c0 : Nat) (l0 : List (S87)) (r : List (S154)) (w : World) (hr0 : Kd.C k87 w A0 l0.length l0) (hc0 : l0.length ≤ c0) (h : prefix_codes.f k l0 = some r) :
  Calls Tryd.prog 88 #[.slice A0 l0.length c0] w fun e w' => ∃ v0_ : Value, e = .returned (v0_) ∧ Kd.R k154 154 w' w.heap.size (fun _ => True) v0_ r ∧ Below w.heap.size w w' := by
 have hu154 := Tryd.underlying154
 have hu87 := Tryd.underlying87
 have HR0 := Aside0.mk hr0
 have HC0 := Aside0.mk hc0
 clear hr0 hc0
 have HB := Aside0.mk (Below.refl w.heap.size w)
 have H : (if 0 ≤ (l0.length : Int) then (if ((l0.length : Int) : Int).toNat ≤ 17592186044416 then (prefix_codes.l0 k l0 (List.replicate ((l0.length : Int) : Int).toNat z154) 1 0 1) else (none)) else (none)) = some r := h
 clear h
 by_cases c2 : 0 ≤ (l0.length : Int)
 ·rw [if_pos c2] at H
  have c2b0 := eq_true c2
  have c2b1 := decide_eq_true c2
  clear c2
  by_cases c3 : ((l0.length : Int) : Int).toNat ≤ 17592186044416
  ·rw [if_pos c3] at H
   have c3b0 := eq_true c3
   have c3b1 := decide_eq_true c3
   clear c3
   obtain ⟨y161, hy_⟩ : ∃ y_ : List (S154), y_ = (List.replicate ((l0.length : Int) : Int).toNat z154) := ⟨_, rfl⟩
   replace H : (prefix_codes.l0 k l0 y161 1 0 1) = some r := rh
   have Ny161 := aE hy_
   clear hy_
   have H' := Aside0.mk H
   clear H
   go_enter Tryd.func88, Tryd.ntmps88
   go_wp2_with (first | ((with_reducible refine gd 10 rfl ?_); refine Kd.R_make k154 _ 154 rfl (N := 10) rfl 125 _ _ rfl (l0.length : Int) rfl rfl Tryd.underlying125 (.agg #[(.int .i64 0), (.int .i64 0)]) 16 info154 rfl (by decide) (by omega) z154 (ok := fun _ => True) (okp := fun _ => True) (k154_mkM _ _ _ z154 ) (fun _ hk => hk) trivial (dt) (Nat.le_trans (Nat.mul_le_mul_right _ (dt : (l0.length : Int).toNat ≤ 17592186044416)) (by omega)) (Below.refl _ _) (Nat.le_refl _) ?_; intro v162 w4 ho5 hb hg_ hnew_; clear hg_ hnew_; (first | rw [← Ny161.out] at ho5 | (simp only [Int.reduceToNat] at ho5; rw [← Ny161.out] at ho5)); have n_ := aC (Kd.R_lower ho5 bz) (aE (bs hb)); clear HB; obtain ⟨HO163, HB⟩ := n_; clear hb ho5) | ((with_reducible refine gd 4 rfl ?_); refine bx 4 #[.int .i64 0, .int .i64 0] 154 rfl rfl ?_; intro gb164 hg w6 hbox hb; have n_ := aC (Kd.R_below (Kd.R_elderB (rU HO163.out) gb164 (Nat.le_of_eq hg.symm)) hb) (aC (bs hb) (aC hbox (aC (gz hg) (aE (gz hg))))); clear HO163 HB; obtain ⟨HO163, HB, BK164, GW164, GE164⟩ := n_; clear hb hbox hg; obtain ⟨hcz7_0, hcz7_1, hfz7_0, hfz7_1⟩ := cz2f BK164.out))
   go_loopg [5] k (fun kq v5 w' => ∃ (x3_1 : List (S154)) (x5_1 : Int) (x165000_1 : Int) (x165001_1 : Int), v5 = .int .i64 x5_1 ∧ Aside0 (prefix_codes.l0 kq l0 x3_1 x5_1 x165000_1 x165001_1 = some r) ∧ Aside0 (kq ≤ k) ∧ Aside0 (Kd.R k154 154 w' w.heap.size (fun k_ => k_ ≠ gb164) v162 x3_1) ∧ Aside0 (w'.heap[gb164]? = some (.cells #[.int .i64 x165000_1, .int .i64 x165001_1] 154 (0, 0))) ∧ Aside0 (Below w.heap.size w w'))
   case atStart => exact ⟨(y161), (1), (0), (1), rq, H', ⟨Nat.le_refl _⟩, ⟨rU (Kd.R_mono (Kd.R_far (p := ⟨gb164, 1, none⟩) (Kd.R_far (p := ⟨gb164, 0, none⟩) (Kd.R_mono HO163.out (fun k_ hk => (⟨hk, hk.2⟩ : _ ∧ k_ ≠ gb164))) (fun _ hk => hk.2) (.int .i64 0)) (fun _ hk => hk.2) (.int .i64 1)) (fun _ hk => hk.1.2))⟩, ⟨by (with_reducible repeat (first | refine blk_drewN ?_ _ | refine blk_drew ?_ | refine blk_alloc ?_ _)); refine blk_put (cs := #[.int .i64 0, .int .i64 0]) ?_ 1 _ rfl; (with_reducible repeat (first | refine blk_drewN ?_ _ | refine blk_drew ?_ | refine blk_alloc ?_ _)); refine blk_put (cs := #[.int .i64 0, .int .i64 0]) ?_ 0 _ rfl; (with_reducible repeat (first | refine blk_drewN ?_ _ | refine blk_drew ?_ | refine blk_alloc ?_ _)); exact BK164.out⟩, ⟨bl⟩⟩
   case round =>
    clear H'
    obtain ⟨x3_1, x5_1, x165000_1, x165001_1, rfl, HA, HK1, HO_3, BK164, HB⟩ := hrel
    cases gk with
    | zero => exact absurd HA.out (by simp [prefix_codes.l0])
    | succ k1 =>
     have H := HA.out
     clear HA
     simp only [prefix_codes.l0] at H
     by_cases c8 : x5_1 ≤ 15
     ·rw [if_pos c8] at H
      have c8b0 := decide_eq_true c8
      clear c8
      obtain ⟨ji9, hji9⟩ : ∃ j_ : Int, (wrap64 (x5_1 - x165001_1)) = j_ := ⟨_, rfl⟩
      replace H : (if 0 ≤ (ji9) then (prefix_codes.l1 k1 l0 x3_1 x5_1 l0 (l0.length : Int) 0 (shl .i64 x165000_1 (ji9)) x5_1) else (none)) = some r := by first | (rw [hji9] at H; exact H) | (simp only [hji9] at H ⊢; exact H)
      have hji9w : (IntKind.i64.wrap (x5_1 - x165001_1)) = ji9 := (i64_w _).trans hji9
      by_cases c10 : 0 ≤ (ji9)
      ·rw [if_pos c10] at H
       have c10b0 := eq_true c10
       have c10b1 := decide_eq_true c10
       clear c10
       obtain ⟨ji11, hji11⟩ : ∃ j_ : Int, (shl .i64 x165000_1 (ji9)) = j_ := ⟨_, rfl⟩
       replace H : (prefix_codes.l1 k1 l0 x3_1 x5_1 l0 (l0.length : Int) 0 ji11 x5_1) = some r := by first | (rw [hji11] at H; exact H) | (simp only [hji11] at H ⊢; exact H)
       have hji11_ : (IntKind.i64.wrap (x165000_1 * 2 ^ min (ji9).toNat 64)) = ji11 := hji11
       have hji11z : (ji9) ≤ 64 → (IntKind.i64.wrap (x165000_1 * 2 ^ (ji9).toNat)) = ji11 := shl_small hji11
       have hji11y : (wrap64 (x165000_1 * 2 ^ min (ji9).toNat 64)) = ji11 := (i64_w _).symm.trans hji11_
       have hji11x : (ji9) ≤ 64 → (wrap64 (x165000_1 * 2 ^ (ji9).toNat)) = ji11 := fun h_ => (i64_w _).symm.trans (hji11z h_)
       have H' := Aside0.mk H
       clear H
       obtain ⟨hcz12_0, hcz12_1, hfz12_0, hfz12_1⟩ := cz2f BK164.out
       go_wp2
       go_loopg [27] k1 (fun kq v27 w' => ∃ (x3_2 : List (S154)) (x27_2 : Int) (x165000_2 : Int) (x165001_2 : Int), v27 = .int .i64 x27_2 ∧ Aside0 (prefix_codes.l1 kq l0 x3_2 x5_1 l0 (l0.length : Int) x27_2 x165000_2 x165001_2 = some r) ∧ Aside0 (kq ≤ k1) ∧ Aside0 (Kd.R k154 154 w' w.heap.size (fun k_ => k_ ≠ gb164) v162 x3_2) ∧ Aside0 (w'.heap[gb164]? = some (.cells #[.int .i64 x165000_2, .int .i64 x165001_2] 154 (0, 0))) ∧ Aside0 (Below w.heap.size w w'))
       case atStart => exact ⟨(x3_1), (0), (ji11), (x5_1), rq, H', ⟨Nat.le_refl _⟩, ⟨rU (Kd.R_mono (Kd.R_far (p := ⟨gb164, 1, none⟩) (Kd.R_far (p := ⟨gb164, 0, none⟩) (Kd.R_mono HO_3.out (fun k_ hk => (⟨hk, hk⟩ : _ ∧ k_ ≠ gb164))) (fun _ hk => hk.2) (.int .i64 ji11)) (fun _ hk => hk.2) (.int .i64 x5_1)) (fun _ hk => hk.1))⟩, ⟨by (with_reducible repeat (first | refine blk_drewN ?_ _ | refine blk_drew ?_ | refine blk_alloc ?_ _)); refine blk_put (cs := #[.int .i64 ji11, .int .i64 x165001_1]) ?_ 1 _ rfl; (with_reducible repeat (first | refine blk_drewN ?_ _ | refine blk_drew ?_ | refine blk_alloc ?_ _)); refine blk_put (cs := #[.int .i64 x165000_1, .int .i64 x165001_1]) ?_ 0 _ rfl; (with_reducible repeat (first | refine blk_drewN ?_ _ | refine blk_drew ?_ | refine blk_alloc ?_ _)); exact BK164.out⟩, ⟨bl⟩⟩
       case round =>
        clear H'
        obtain ⟨x3_2, x27_2, x165000_2, x165001_2, rfl, HA, HK2, HO_3, BK164, HB⟩ := hrel
        cases gk with
        | zero => exact absurd HA.out (by simp [prefix_codes.l1])
        | succ k2 =>
         have H := HA.out
         clear HA
         simp only [prefix_codes.l1] at H
         by_cases c13 : x27_2 < (l0.length : Int)
         ·rw [if_pos c13] at H
          have c13b0 := decide_eq_true c13
          clear c13
          by_cases c14 : 0 ≤ x27_2
          ·rw [if_pos c14] at H
           have c14b0 := decide_eq_true c14
           clear c14
           by_cases c15 : x27_2 < (l0.length : Int)
           ·rw [if_pos c15] at H
            have c15b0 := decide_eq_true c15
            clear c15
            by_cases c16 : ((rd_T87 l0 x27_2).f0) = x5_1
            ·rw [if_pos c16] at H
             have c16b0 := beq_iff_eq.mpr c16
             have c16b1 := bne_eq_false_iff_eq.mpr c16
             clear c16
             by_cases c17 : x27_2 < (x3_2.length : Int)
             ·rw [if_pos c17] at H
              have c17b0 := decide_eq_true c17
              clear c17
              obtain ⟨y167, hy_⟩ : ∃ y_ : List (S154), y_ = (x3_2.set (x27_2 : Int).toNat (⟨x165000_2, x165001_2⟩ : S154)) := ⟨_, rfl⟩
              replace H : (prefix_codes.l1 k2 l0 y167 x5_1 l0 (l0.length : Int) (wrap64 (x27_2 + 1)) (wrap64 (x165000_2 + 1)) x165001_2) = some r := rh
              have Ny167 := aE hy_
              clear hy_
              have H' := Aside0.mk H
              clear H
              have p165 : 0 ≤ (x27_2 : Int) := dt
              have q165 : x27_2 < (l0.length : Int) := dt
              obtain ⟨ad165, e165, hx165_0, hx165_1, hx165_2, hx165_3⟩ := at_T87 HR0.out x27_2 p165 q165
              cases e165
              replace hx165_0 := hcB HB.out hx165_0
              replace hx165_1 := hcB HB.out hx165_1
              replace hx165_2 := hcB HB.out hx165_2
              replace hx165_3 := hcB HB.out hx165_3
              replace p165 := eq_true p165
              replace q165 := eq_true q165
              go_wp2_with (first | ((with_reducible refine gd 7 rfl ?_); refine bx 7 #[.int .i64 0, .int .i64 0, .int .i64 0, .int .i64 0] 87 rfl rfl ?_; intro gb166 hg w19 hbox hb; have n_ := aC (Kd.R_below (rU HO_3.out) hb) (aC (blk_below (bU BK164.out) hb) (aC (bs hb) (aC hbox (aC (gz hg) (aC (gz hg) (aC (gn hg (bU BK164.out)) (aE (gm hg (bU BK164.out))))))))); clear HO_3 BK164 HB; obtain ⟨HO_3, BK164, HB, BK166, GW166, GE166, NB164_166, NB166_164⟩ := n_; clear hb hbox hg; have hnb20 := NB166_164.out; have hnc20 := NB164_166.out; obtain ⟨hcz21_0, hcz21_1, hcz21_2, hcz21_3, hfz21_0, hfz21_1, hfz21_2, hfz21_3⟩ := cz4f BK166.out) | ((with_reducible refine gate_store (t := 87) (p := 7) rfl ?_); refine store_event (t := 87) (p := 7) (v := ?vo_w22) (w1 := ((((w19.setCell ⟨gb166, 0, none⟩ (.int .i64 ((rd_T87 l0 x27_2).f0))).setCell ⟨gb166, 1, none⟩ (.int .i64 ((rd_T87 l0 x27_2).f1))).setCell ⟨gb166, 2, none⟩ (.int .i64 ((rd_T87 l0 x27_2).f2))).setCell ⟨gb166, 3, none⟩ (.int .i64 ((rd_T87 l0 x27_2).f3)))) ?hg ?ho ?hn ?hr ?_; (case ho => rfl); (case hg => rfl); (case hn => rfl); (case hr => first | (go_simp; done) | (go_simp; rfl)); intro w22 hw; have n_ := aC (show Kd.R k154 154 w22 w.heap.size (fun k_ => k_ ≠ gb164) v162 x3_2 from (by rw [hw]; exact (rU (Kd.R_mono (Kd.R_far (p := ⟨gb166, 3, none⟩) (Kd.R_far (p := ⟨gb166, 2, none⟩) (Kd.R_far (p := ⟨gb166, 1, none⟩) (Kd.R_far (p := ⟨gb166, 0, none⟩) (Kd.R_types HO_3.out BK166.out (by decide)) (fun _ hk => hk.2) (.int .i64 ((rd_T87 l0 x27_2).f0))) (fun _ hk => hk.2) (.int .i64 ((rd_T87 l0 x27_2).f1))) (fun _ hk => hk.2) (.int .i64 ((rd_T87 l0 x27_2).f2))) (fun _ hk => hk.2) (.int .i64 ((rd_T87 l0 x27_2).f3))) (fun _ hk => hk.1))))) (aC (show w22.heap[gb164]? = some (.cells #[.int .i64 x165000_2, .int .i64 x165001_2] 154 (0, 0)) from (by rw [hw]; exact (by (with_reducible repeat (first | refine blk_drewN ?_ _ | refine blk_drew ?_ | refine blk_alloc ?_ _)); refine blk_far ?_ NB164_166.out _; (with_reducible repeat (first | refine blk_drewN ?_ _ | refine blk_drew ?_ | refine blk_alloc ?_ _)); refine blk_far ?_ NB164_166.out _; (with_reducible repeat (first | refine blk_drewN ?_ _ | refine blk_drew ?_ | refine blk_alloc ?_ _)); refine blk_far ?_ NB164_166.out _; (with_reducible repeat (first | refine blk_drewN ?_ _ | refine blk_drew ?_ | refine blk_alloc ?_ _)); refine blk_far ?_ NB164_166.out _; (with_reducible repeat (first | refine blk_drewN ?_ _ | refine blk_drew ?_ | refine blk_alloc ?_ _)); exact BK164.out))) (aC (show w22.heap[gb166]? = some (.cells #[.int .i64 ((rd_T87 l0 x27_2).f0), .int .i64 ((rd_T87 l0 x27_2).f1), .int .i64 ((rd_T87 l0 x27_2).f2), .int .i64 ((rd_T87 l0 x27_2).f3)] 87 (0, 0)) from (by rw [hw]; exact (by (with_reducible repeat (first | refine blk_drewN ?_ _ | refine blk_drew ?_ | refine blk_alloc ?_ _)); refine blk_put (cs := #[.int .i64 ((rd_T87 l0 x27_2).f0), .int .i64 ((rd_T87 l0 x27_2).f1), .int .i64 ((rd_T87 l0 x27_2).f2), .int .i64 0]) ?_ 3 _ rfl; (with_reducible repeat (first | refine blk_drewN ?_ _ | refine blk_drew ?_ | refine blk_alloc ?_ _)); refine blk_put (cs := #[.int .i64 ((rd_T87 l0 x27_2).f0), .int .i64 ((rd_T87 l0 x27_2).f1), .int .i64 0, .int .i64 0]) ?_ 2 _ rfl; (with_reducible repeat (first | refine blk_drewN ?_ _ | refine blk_drew ?_ | refine blk_alloc ?_ _)); refine blk_put (cs := #[.int .i64 ((rd_T87 l0 x27_2).f0), .int .i64 0, .int .i64 0, .int .i64 0]) ?_ 1 _ rfl; (with_reducible repeat (first | refine blk_drewN ?_ _ | refine blk_drew ?_ | refine blk_alloc ?_ _)); refine blk_put (cs := #[.int .i64 0, .int .i64 0, .int .i64 0, .int .i64 0]) ?_ 0 _ rfl; (with_reducible repeat (first | refine blk_drewN ?_ _ | refine blk_drew ?_ | refine blk_alloc ?_ _)); exact BK166.out))) (aE (show Below w.heap.size w w22 from (by rw [hw]; exact bl))))); clear hw HO_3 BK164 BK166 HB; obtain ⟨HO_3, BK164, BK166, HB⟩ := n_; obtain ⟨hcz23_0, hcz23_1, hcz23_2, hcz23_3, hfz23_0, hfz23_1, hfz23_2, hfz23_3⟩ := cz4f BK166.out; obtain ⟨hcz24_0, hcz24_1, hfz24_0, hfz24_1⟩ := cz2f BK164.out; have p18 : 0 ≤ (x27_2 : Int) := dt; have q18 : (x27_2 : Int) < ((x3_2.length : Int) : Int) := dt; obtain ⟨go18, co18, eo18, gb18, gl18, cl18, HG18⟩ := Kd.R_form HO_3.out (by omega); (first | cases eo18 | (injection eo18 with ea_ en_ ec_; (first | subst ea_ | (injection ea_ with ea_; subst ea_)); subst ec_; clear en_)); have GB18 := Aside0.mk gb18; have GG18 := Aside0.mk HG18; clear gb18 gl18 HG18; obtain ⟨ce18, hcl18, hM18, hcc18, hfr18⟩ := Kd.R_elem HO_3.out z154 (x27_2 : Int) p18 q18; obtain rfl := k154_openM hM18; have hx18_0 : w22.cell? ⟨go18, (x27_2 : Int).toNat * 2, none⟩ = some (.int .i64 ((rd_T154 x3_2 x27_2).f0)) := hcc18 0 _ rfl; have hx18_1 : w22.cell? ⟨go18, (x27_2 : Int).toNat * 2 + 1, none⟩ = some (.int .i64 ((rd_T154 x3_2 x27_2).f1)) := hcc18 1 _ rfl; have hf18_0 : w22.frozen? ⟨go18, (x27_2 : Int).toNat * 2, none⟩ = false := hfr18 0; have hf18_1 : w22.frozen? ⟨go18, (x27_2 : Int).toNat * 2 + 1, none⟩ = false := hfr18 1; clear hcl18 hcc18 hfr18 hM18; replace p18 := eq_true p18; replace q18 := eq_true q18; have HX25 := Aside0.mk (show Kd.R k154 154 w22 w.heap.size (fun k_ => k_ ≠ gb164) (.slice (some ⟨go18, 0, none⟩) x3_2.length co18) x3_2 from (rU HO_3.out)); obtain ⟨ce25, hcl25, hM25, hcc25, hfr25⟩ := Kd.R_elem HX25.out z154 (x27_2 : Int) (dt) (by have h_ : (x27_2 : Int) < ((x3_2.length : Int) : Int) := dt; first | exact h_ | (have e_ := (Kd.R_reads' HO_3.out).1; omega) | simpa using h_); obtain rfl := k154_openM hM25; have HP25 := Kd.R_seg HX25.out (x27_2 : Int) (dt) (by have h_ : (x27_2 : Int) < ((x3_2.length : Int) : Int) := dt; first | exact h_ | (have e_ := (Kd.R_reads' HO_3.out).1; omega) | simpa using h_) (seg := [.int .i64 x165000_2, .int .i64 x165001_2]) (j := 0) hcl25 hcc25 (show 2 ≤ 2 from by decide) (x' := (⟨x165000_2, x165001_2⟩ : S154)) (k154_mkM _ _ _ (⟨x165000_2, x165001_2⟩ : S154) ) (fun _ hk => hk); have hx25_0 := hcc25 0 _ rfl; (try simp only [show (k154).sz = 2 from rfl, Nat.mul_one, Nat.add_zero] at hx25_0); have hf25_0 := hfr25 0; (try simp only [show (k154).sz = 2 from rfl, Nat.mul_one, Nat.add_zero] at hf25_0); have hx25_1 := hcc25 1 _ rfl; (try simp only [show (k154).sz = 2 from rfl, Nat.mul_one, Nat.add_zero] at hx25_1); have hf25_1 := hfr25 1; (try simp only [show (k154).sz = 2 from rfl, Nat.mul_one, Nat.add_zero] at hf25_1); clear hcl25 hcc25 hfr25 hM25) | ((with_reducible refine gate_store (t := 154) (p := 39) rfl ?_); refine store_event (t := 154) (p := 39) (v := ?vo_w26) (w1 := ((w22.setCell ⟨go18, (x27_2 : Int).toNat * 2, none⟩ (.int .i64 x165000_2)).setCell ⟨go18, (x27_2 : Int).toNat * 2 + 1, none⟩ (.int .i64 x165001_2))) ?hg ?ho ?hn ?hr ?_; (case ho => rfl); (case hg => rfl); (case hn => rfl); (case hr => first | (go_simp; done) | (go_simp; rfl)); intro w26 hw; have hg : w22.grownBy w26 (some go18) := (by rw [hw]; exact HP25.2); have hp_ : Kd.R k154 154 w26 w.heap.size (fun k_ => k_ ≠ gb164) (.slice (some ⟨go18, 0, none⟩) x3_2.length co18) y167 := (by rw [hw, Ny167.out]; exact HP25.1); clear HP25; have n_ := aC hp_ (aC (blk_grown (bU BK164.out) hg (Kd.R_away HO_3.out (fun _ hk => hk))) (aC (blk_grown (g := gb166) (o := .cells #[.int .i64 ((rd_T87 l0 x27_2).f0), .int .i64 ((rd_T87 l0 x27_2).f1), .int .i64 ((rd_T87 l0 x27_2).f2), .int .i64 ((rd_T87 l0 x27_2).f3)] 87 (0, 0)) (bU BK166.out) hg (Kd.R_ne HO_3.out BK166.out (by decide))) (aE ((by rw [hw]; exact below_set (below_set (HB.out) GB18.out) GB18.out : Below w.heap.size w w26))))); clear HO_3 BK164 BK166 HB; obtain ⟨HO_3, BK164, BK166, HB⟩ := n_; clear hg hw hp_; obtain ⟨hcz27_0, hcz27_1, hfz27_0, hfz27_1⟩ := cz2f BK164.out))
              go_roundg k2
              case measure => have := HK1.out; have := HK2.out; omega
              case rel => exact ⟨(y167), (wrap64 (x27_2 + 1)), (wrap64 (x165000_2 + 1)), (x165001_2), rq, H', ⟨by have := HK1.out; have := HK2.out; omega⟩, ⟨rU (Kd.R_mono (Kd.R_far (p := ⟨gb164, 0, none⟩) (Kd.R_mono HO_3.out (fun k_ hk => (⟨hk, hk⟩ : _ ∧ k_ ≠ gb164))) (fun _ hk => hk.2) (.int .i64 (wrap64 (x165000_2 + 1)))) (fun _ hk => hk.1))⟩, ⟨by (with_reducible repeat (first | refine blk_drewN ?_ _ | refine blk_drew ?_ | refine blk_alloc ?_ _)); refine blk_put (cs := #[.int .i64 x165000_2, .int .i64 x165001_2]) ?_ 0 _ rfl; (with_reducible repeat (first | refine blk_drewN ?_ _ | refine blk_drew ?_ | refine blk_alloc ?_ _)); exact BK164.out⟩, ⟨bl⟩⟩
             ·rw [if_neg c17] at H
              exact absurd H (by simp)
            ·rw [if_neg c16] at H
             have c16b0 := beq_eq_false_iff_ne.mpr c16
             have c16b1 := bne_iff_ne.mpr c16
             have H' := Aside0.mk H
             clear H
             have p165 : 0 ≤ (x27_2 : Int) := dt
             have q165 : x27_2 < (l0.length : Int) := dt
             obtain ⟨ad165, e165, hx165_0, hx165_1, hx165_2, hx165_3⟩ := at_T87 HR0.out x27_2 p165 q165
             cases e165
             replace hx165_0 := hcB HB.out hx165_0
             replace hx165_1 := hcB HB.out hx165_1
             replace hx165_2 := hcB HB.out hx165_2
             replace hx165_3 := hcB HB.out hx165_3
             replace p165 := eq_true p165
             replace q165 := eq_true q165
             go_wp2_with (first | ((with_reducible refine gd 7 rfl ?_); refine bx 7 #[.int .i64 0, .int .i64 0, .int .i64 0, .int .i64 0] 87 rfl rfl ?_; intro gb166 hg w28 hbox hb; have n_ := aC (Kd.R_below (rU HO_3.out) hb) (aC (blk_below (bU BK164.out) hb) (aC (bs hb) (aC hbox (aC (gz hg) (aC (gz hg) (aC (gn hg (bU BK164.out)) (aE (gm hg (bU BK164.out))))))))); clear HO_3 BK164 HB; obtain ⟨HO_3, BK164, HB, BK166, GW166, GE166, NB164_166, NB166_164⟩ := n_; clear hb hbox hg; have hnb29 := NB166_164.out; have hnc29 := NB164_166.out; obtain ⟨hcz30_0, hcz30_1, hcz30_2, hcz30_3, hfz30_0, hfz30_1, hfz30_2, hfz30_3⟩ := cz4f BK166.out))
             go_roundg k2
             case measure => have := HK1.out; have := HK2.out; omega
             case rel => exact ⟨(x3_2), (wrap64 (x27_2 + 1)), (x165000_2), (x165001_2), rq, H', ⟨by have := HK1.out; have := HK2.out; omega⟩, ⟨rU (Kd.R_mono (Kd.R_far (p := ⟨gb166, 3, none⟩) (Kd.R_far (p := ⟨gb166, 2, none⟩) (Kd.R_far (p := ⟨gb166, 1, none⟩) (Kd.R_far (p := ⟨gb166, 0, none⟩) (Kd.R_types HO_3.out BK166.out (by decide)) (fun _ hk => hk.2) (.int .i64 ((rd_T87 l0 x27_2).f0))) (fun _ hk => hk.2) (.int .i64 ((rd_T87 l0 x27_2).f1))) (fun _ hk => hk.2) (.int .i64 ((rd_T87 l0 x27_2).f2))) (fun _ hk => hk.2) (.int .i64 ((rd_T87 l0 x27_2).f3))) (fun _ hk => hk.1))⟩, ⟨by (with_reducible repeat (first | refine blk_drewN ?_ _ | refine blk_drew ?_ | refine blk_alloc ?_ _)); refine blk_far ?_ NB164_166.out _; (with_reducible repeat (first | refine blk_drewN ?_ _ | refine blk_drew ?_ | refine blk_alloc ?_ _)); refine blk_far ?_ NB164_166.out _; (with_reducible repeat (first | refine blk_drewN ?_ _ | refine blk_drew ?_ | refine blk_alloc ?_ _)); refine blk_far ?_ NB164_166.out _; (with_reducible repeat (first | refine blk_drewN ?_ _ | refine blk_drew ?_ | refine blk_alloc ?_ _)); refine blk_far ?_ NB164_166.out _; (with_reducible repeat (first | refine blk_drewN ?_ _ | refine blk_drew ?_ | refine blk_alloc ?_ _)); exact BK164.out⟩, ⟨bl⟩⟩
           ·rw [if_neg c15] at H
            exact absurd H (by simp)
          ·rw [if_neg c14] at H
           exact absurd H (by simp)
         ·rw [if_neg c13] at H
          have c13b0 := decide_eq_false c13
          clear c13
          have H' := Aside0.mk H
          clear H
          go_wp2
          go_roundg k2
          case measure => have := HK1.out; have := HK2.out; omega
          case rel => exact ⟨(x3_2), (wrap64 (x5_1 + 1)), (x165000_2), (x165001_2), rq, H', ⟨by have := HK1.out; have := HK2.out; omega⟩, ⟨rU HO_3.out⟩, ⟨bU BK164.out⟩, ⟨bl⟩⟩
      ·rw [if_neg c10] at H
       exact absurd H (by simp)
     ·rw [if_neg c8] at H
      have c8b0 := decide_eq_false c8
      clear c8
      obtain rfl := Option.some.inj H
      go_wp2
      go_ret
      exact ⟨_, re, rU (Kd.R_mono HO_3.out (fun _ hk => trivial)), bl⟩
  ·rw [if_neg c3] at H
   exact absurd H (by simp)
 ·rw [if_neg c2] at H
  exact absurd H (by simp)

/-! ### prefix_Bits: function 58 -/
def prefix_Bits.f (k : Nat) (l0 : List (S87)) (a1_0 : Bool) (a1_1 : Int) : Option (List Int × Int) := (prefix_Valid.f k l0).bind fun t169 => (if t169 = true then ((prefix_codes.f k l0).bind fun t170 => ((prefix_put.f k l0 t170 a1_0 a1_1).bind fun bt173 => (some (bt173.1, bt173.2)))) else (some (([] : List Int), 20)))
theorem prefix_Bits.mono : ∀ a0 a1 a2 k, LeO (prefix_Bits.f k a0 a1 a2) (prefix_Bits.f (k + 1) a0 a1 a2) := by
 intro a0 a1 a2 k
 unfold prefix_Bits.f
 repeat' first
   | (with_reducible exact prefix_Valid.mono _ _)
   | (with_reducible exact prefix_codes.mono _ _)
   | (with_reducible exact prefix_put.mono _ _ _ _ _)
   | (with_reducible first | exact LeO.refl _ | exact LeO.none _ | refine LeO.ite ?_ ?_ | refine LeO.bind ?_ (fun _ => ?_))
   | exact prefix_Valid.mono _ _
   | exact prefix_codes.mono _ _
   | exact prefix_put.mono _ _ _ _ _
   | exact LeO.none _ | refine LeO.ite ?_ ?_ | refine LeO.bind ?_ (fun _ => ?_)
def prefix_Bits.T3 : Bool × List (List Nat × List Nat) := (true, [([], []), ([], []), ([1], [1]), ([], []), ([0, 2, 3, 2], [0, 2, 3]), ([4], [4]), ([4], [4]), ([5, 4, 0, 1, 2, 3, 4, 5, 6], [5]), ([6, 7, 0, 1, 2, 3, 4, 5, 6, 7], [6])])
def prefix_Bits.B3 : List Nat := [0, 0, 2, 0, 15, 31, 31, 127, 255]
theorem prefix_Bits.tab3 : rtab .any (opsOf Tryd.f58 3) = prefix_Bits.T3 := by kernel_rfl
theorem prefix_Bits.bits3 : waitsOk prefix_Bits.T3.2 prefix_Bits.B3 = true := by kernel_rfl
set_option maxHeartbeats 8000000 in
set_option maxRecDepth 100000 in
theorem prefix_Bits.calls (k : Nat) (A0 : Option Addr) (c0 : Nat) (l0 : List (S87)) (a1_0 : Bool) (a1_1 : Int) (r1 : List Int) (r2 : Int) (w : World) (hr0 : Kd.C k87 w A0 l0.length l0) (hc0 : l0.length ≤ c0) (h : prefix_Bits.f k l0 a1_0 a1_1 = some (r1, r2)) :
  Calls Tryd.prog 58 #[.slice A0 l0.length c0, .agg #[.bool a1_0, .int .i64 a1_1]] w fun e w' => ∃ v0_ : Value, e = .returned (.tuple #[v0_, .int .i64 r2]) ∧ Kd.R (Kd.int .u8) 5 w' w.heap.size (fun _ => True) v0_ r1 ∧ Below w.heap.size w w' := by
 have hu64 := Tryd.underlying64
 have HR0 := Aside0.mk hr0
 have HC0 := Aside0.mk hc0
 clear hr0 hc0
 have HB := Aside0.mk (Below.refl w.heap.size w)
 have H : ((prefix_Valid.f k l0).bind fun t169 => (if t169 = true then ((prefix_codes.f k l0).bind fun t170 => ((prefix_put.f k l0 t170 a1_0 a1_1).bind fun bt173 => (some (bt173.1, bt173.2)))) else (some (([] : List Int), 20)))) = some (r1, r2) := h
 clear h
 replace H := Option.bind_eq_some_iff.mp H
 obtain ⟨t169, A30, H⟩ := H
 replace H : (if t169 = true then ((prefix_codes.f k l0).bind fun t170 => ((prefix_put.f k l0 t170 a1_0 a1_1).bind fun bt173 => (some (bt173.1, bt173.2)))) else (some (([] : List Int), 20))) = some (r1, r2) := H
 have A3 := Aside0.mk A30
 clear A30
 by_cases c4 : t169 = true
 ·subst c4
  have H1 : ((prefix_codes.f k l0).bind fun t170 => ((prefix_put.f k l0 t170 a1_0 a1_1).bind fun bt173 => (some (bt173.1, bt173.2)))) = some (r1, r2) := by rw [if_pos rfl] at H; exact H
  clear H
  have H := H1
  clear H1
  replace H := Option.bind_eq_some_iff.mp H
  obtain ⟨t170, A50, H⟩ := H
  replace H : ((prefix_put.f k l0 t170 a1_0 a1_1).bind fun bt173 => (some (bt173.1, bt173.2))) = some (r1, r2) := H
  have A5 := Aside0.mk A50
  clear A50
  replace H := Option.bind_eq_some_iff.mp H
  obtain ⟨⟨t173, t176⟩, A60, H⟩ := H
  replace H : (some (t173, t176)) = some (r1, r2) := H
  have A6 := Aside0.mk A60
  clear A60
  simp only [Option.some.injEq, Prod.mk.injEq] at H
  obtain ⟨rfl, rfl⟩ := H
  go_enter Tryd.func58, Tryd.ntmps58
  try go_wp2_with (first | ((with_reducible refine gd 3 rfl ?_); refine bx 3 #[.bool a1_0, .int .i64 a1_1] 64 rfl rfl ?_; intro gb168 hg w7 hbox hb; have n_ := aC (bs hb) (aC hbox (aC (gz hg) (aE (gz hg)))); clear HB; obtain ⟨HB, BK168, GW168, GE168⟩ := n_; clear hb hbox hg) | ((with_reducible refine gf 86 rfl ?_); refine gL (some 7) rfl rfl Tryd.func86 rfl #[.slice A0 l0.length c0] rfl ?_; (with_reducible refine (prefix_Valid.calls k _ _ l0 true _ ?side1 ?side2 A3.out).mono ?_); (case side1 => exact cU (Kd.C_below HR0.out HB.out)); (case side2 => exact HC0.out); rintro e w8 ⟨rfl, hb⟩; refine ⟨_, rfl, ?_⟩; have n_ := aC (blk_below (bU BK168.out) hb) (aE (bs hb)); clear BK168 HB; obtain ⟨BK168, HB⟩ := n_; (try clear hb)))
  have n_ := aC (blk_drew BK168.out) (aE (below_drew1 HB.out))
  clear BK168 HB
  obtain ⟨BK168, HB⟩ := n_
  refine st 9 (fun w' => w'.cell? ⟨gb168, 0, none⟩ = some (.bool a1_0) ∧ w'.cell? ⟨gb168, 1, none⟩ = some (.int .i64 a1_1)) [] (bv 9 0) prefix_Bits.tab3 prefix_Bits.bits3 ⟨kc0 BK168.out, kc1 BK168.out⟩ (fun hHeld HT_ HW_ => ?_)
  generalize w8.drew = w9 at BK168 HB hHeld ⊢
  refine pu 0 9 (bv 9 1) HT_ rfl rfl ?_
  refine pu 1 10 (bv 9 3) HT_ rfl rfl ?_
  refine tk 3 12 (bv 9 11) HT_ HW_ hHeld rfl rfl (by rintro w' ⟨s0, s1⟩; exact yl) ?_
  refine one_ (i := 2) (N := some 11) (bv 9 15) rfl rfl (one_of HT_.out (by kernel_rfl)) (by decide) (fun K hK => ?_)
  refine gK Tryd.func88 rfl #[.slice A0 l0.length c0] rfl rfl ?_
  with_reducible refine (prefix_codes.calls k _ _ l0 t170 _ ?side1 ?side2 A5.out).mono ?_
  (case side1 => exact cU (Kd.C_below HR0.out HB.out))
  (case side2 => exact HC0.out)
  rintro e w10 ⟨v171, rfl, ho0, hb⟩
  refine ⟨_, rfl, ?_⟩
  have n_ := aC (Kd.R_lower ho0 bz) (aC (blk_below (bU BK168.out) hb) (aE (bs hb)))
  clear BK168 HB
  obtain ⟨HO172, BK168, HB⟩ := n_
  (try clear hb)
  (try clear hb2)
  (try clear hk)
  (try clear hi)
  (try clear ho0)
  obtain ⟨Ao11, co11, eo11⟩ := Kd.R_slice HO172.out
  (first | subst eo11 | (injection eo11 with f1_ f2_ f3_; have f4_ := f1_.symm; have f5_ := f3_.symm; clear f1_ f2_ f3_; subst f4_; subst f5_))
  refine hK.out _ _ ⟨kc0 BK168.out, kc1 BK168.out⟩ (fun hHeld => ?_)
  clear hK K
  refine nm (some 11) ?_
  refine one_ (i := 4) (N := some 13) (bv 9 31) rfl rfl (one_of HT_.out (by kernel_rfl)) (by decide) (fun K hK => ?_)
  refine gK Tryd.func87 rfl #[.slice A0 l0.length c0, .slice Ao11 t170.length co11, .agg #[.bool a1_0, .int .i64 a1_1]] rfl rfl ?_
  with_reducible refine (prefix_put.calls k _ _ l0 _ _ t170 a1_0 a1_1 t173 t176 _ ?side1 ?side2 ?side3 ?side4 A6.out).mono ?_
  (case side1 => exact cU (Kd.C_below HR0.out HB.out))
  (case side2 => exact HC0.out)
  (case side3 => exact cU (Kd.R_reads' HO172.out).2.2)
  (case side4 => exact (Kd.R_reads' HO172.out).2.1)
  rintro e w12 ⟨v174, rfl, ho0, hb⟩
  refine ⟨_, rfl, ?_⟩
  have n_ := aC (Kd.R_below (rU HO172.out) hb) (aC (Kd.R_lower ho0 bz) (aC (blk_below (bU BK168.out) hb) (aE (bs hb))))
  clear HO172 BK168 HB
  obtain ⟨HO172, HO175, BK168, HB⟩ := n_
  (try clear hb)
  (try clear hb2)
  (try clear hk)
  (try clear hi)
  (try clear ho0)
  refine hK.out _ _ ⟨kc0 BK168.out, kc1 BK168.out⟩ (fun hHeld => ?_)
  clear hK K
  refine nm (some 13) ?_
  refine pu 5 14 (bv 9 63) HT_ rfl rfl ?_
  refine pu 6 15 (bv 9 127) HT_ rfl rfl ?_
  refine pu 7 4 (bv 9 255) HT_ rfl rfl ?_
  refine pu 8 5 (bv 9 511) HT_ rfl rfl ?_
  refine done_ (done_of HT_.out (by kernel_rfl)) ?_
  try go_wp2
  go_ret2
  exact ⟨_, re, rU HO175.out, bl⟩
 ·replace c4 := Bool.eq_false_iff.mpr c4
  subst c4
  have H1 : (some (([] : List Int), 20)) = some (r1, r2) := by rw [if_neg (show ¬ (false = true) by decide)] at H; exact H
  clear H
  have H := H1
  clear H1
  simp only [Option.some.injEq, Prod.mk.injEq] at H
  obtain ⟨rfl, rfl⟩ := H
  go_enter Tryd.func58, Tryd.ntmps58
  go_wp2_with (first | ((with_reducible refine gd 3 rfl ?_); refine bx 3 #[.bool a1_0, .int .i64 a1_1] 64 rfl rfl ?_; intro gb168 hg w13 hbox hb; have n_ := aC (bs hb) (aC hbox (aC (gz hg) (aE (gz hg)))); clear HB; obtain ⟨HB, BK168, GW168, GE168⟩ := n_; clear hb hbox hg) | ((with_reducible refine gf 86 rfl ?_); refine gL (some 7) rfl rfl Tryd.func86 rfl #[.slice A0 l0.length c0] rfl ?_; (with_reducible refine (prefix_Valid.calls k _ _ l0 false _ ?side1 ?side2 A3.out).mono ?_); (case side1 => exact cU (Kd.C_below HR0.out HB.out)); (case side2 => exact HC0.out); rintro e w14 ⟨rfl, hb⟩; refine ⟨_, rfl, ?_⟩; have n_ := aC (blk_below (bU BK168.out) hb) (aE (bs hb)); clear BK168 HB; obtain ⟨BK168, HB⟩ := n_; (try clear hb)))
  go_ret2
  exact ⟨_, re, by first | exact Kd.R_nil _ _ _ _ _ | exact Kd.N_nil _ _ _ _ _ | exact Kd.V_nil _ _ _ _ _ | exact Kd.Q_nil _ _ _ _ _ | exact Kd.S_nil _ _ _ _ _, bl⟩

/-! ### runs_remains: function 59 -/
def runs_remains.f (a0 : Int) : Option ((List (S87))) := if a0 = 0 then (some (([(⟨2, 2, 0, 0⟩ : S87), (⟨2, 3, 4, 0⟩ : S87), (⟨2, 4, 12, 0⟩ : S87), (⟨2, 6, 28, 0⟩ : S87)] : List (S87)))) else (some (([(⟨1, 1, 0, 0⟩ : S87), (⟨2, 1, 2, 0⟩ : S87), (⟨3, 2, 4, 0⟩ : S87), (⟨3, 6, 8, 0⟩ : S87)] : List (S87))))
set_option maxHeartbeats 8000000 in
set_option maxRecDepth 100000 in
theorem runs_remains.calls (a0 : Int) (r : List (S87)) (w : World) (h : runs_remains.f a0 = some r) :
  Calls Tryd.prog 59 #[.int .i64 a0] w fun e w' => ∃ v0_ : Value, e = .returned (v0_) ∧ Kd.R k87 87 w' w.heap.size (fun _ => True) v0_ r ∧ Below w.heap.size w w' := by
 have hu87 := Tryd.underlying87
 have HB := Aside0.mk (Below.refl w.heap.size w)
 have H : (if a0 = 0 then (some (([(⟨2, 2, 0, 0⟩ : S87), (⟨2, 3, 4, 0⟩ : S87), (⟨2, 4, 12, 0⟩ : S87), (⟨2, 6, 28, 0⟩ : S87)] : List (S87)))) else (some (([(⟨1, 1, 0, 0⟩ : S87), (⟨2, 1, 2, 0⟩ : S87), (⟨3, 2, 4, 0⟩ : S87), (⟨3, 6, 8, 0⟩ : S87)] : List (S87))))) = some r := h
 clear h
 by_cases c2 : a0 = 0
 ·rw [if_pos c2] at H
  have c2b0 := beq_iff_eq.mpr c2
  have c2b1 := bne_eq_false_iff_eq.mpr c2
  clear c2
  obtain ⟨y177, hy_⟩ : ∃ y_ : List (S87), y_ = (([(⟨2, 2, 0, 0⟩ : S87), (⟨2, 3, 4, 0⟩ : S87), (⟨2, 4, 12, 0⟩ : S87), (⟨2, 6, 28, 0⟩ : S87)] : List (S87))) := ⟨_, rfl⟩
  replace H : (some y177) = some r := rh
  have Ny177 := aE hy_
  clear hy_
  obtain rfl := Option.some.inj H
  go_enter Tryd.func59, Tryd.ntmps59
  go_wp2_with (first | ((with_reducible refine gd 9 rfl ?_); refine Kd.R_lit k87 _ 87 ?hg (N := 9) ?hd (xs := ([(⟨2, 2, 0, 0⟩ : S87), (⟨2, 3, 4, 0⟩ : S87), (⟨2, 4, 12, 0⟩ : S87), (⟨2, 6, 28, 0⟩ : S87)] : List (S87))) (inner := [.int .i64 2, .int .i64 2, .int .i64 0, .int .i64 0, .int .i64 2, .int .i64 3, .int .i64 4, .int .i64 0, .int .i64 2, .int .i64 4, .int .i64 12, .int .i64 0, .int .i64 2, .int .i64 6, .int .i64 28, .int .i64 0]) (ok := fun _ => True) (okp := fun _ => True) ?hr ?hp (fun _ hk => hk) trivial (Below.refl _ _) (Nat.le_refl _) (by simp) ?_; (case hd => rfl); (case hg => rfl); (case hr => first | (go_simp; done) | (go_simp; rfl)); (case hp => exact (Reps.c4 (show Kd.M k87 _ _ _ (⟨2, 2, 0, 0⟩ : S87) [.int .i64 2, .int .i64 2, .int .i64 0, .int .i64 0] from (k87_mkM _ _ _ (⟨2, 2, 0, 0⟩ : S87) )) (Reps.c4 (show Kd.M k87 _ _ _ (⟨2, 3, 4, 0⟩ : S87) [.int .i64 2, .int .i64 3, .int .i64 4, .int .i64 0] from (k87_mkM _ _ _ (⟨2, 3, 4, 0⟩ : S87) )) (Reps.c4 (show Kd.M k87 _ _ _ (⟨2, 4, 12, 0⟩ : S87) [.int .i64 2, .int .i64 4, .int .i64 12, .int .i64 0] from (k87_mkM _ _ _ (⟨2, 4, 12, 0⟩ : S87) )) (Reps.c4 (show Kd.M k87 _ _ _ (⟨2, 6, 28, 0⟩ : S87) [.int .i64 2, .int .i64 6, .int .i64 28, .int .i64 0] from (k87_mkM _ _ _ (⟨2, 6, 28, 0⟩ : S87) )) (Reps.none _ _)))))); intro v178 w3 ho4 hb hg_ hnew_; clear hg_ hnew_; (first | rw [← Ny177.out] at ho4 | (simp only [Int.reduceToNat] at ho4; rw [← Ny177.out] at ho4)); have n_ := aC (Kd.R_lower ho4 bz) (aE (bs hb)); clear HB; obtain ⟨HO179, HB⟩ := n_; clear hb ho4))
  go_ret
  exact ⟨_, re, rU HO179.out, bl⟩
 ·rw [if_neg c2] at H
  have c2b0 := beq_eq_false_iff_ne.mpr c2
  have c2b1 := bne_iff_ne.mpr c2
  obtain ⟨y180, hy_⟩ : ∃ y_ : List (S87), y_ = (([(⟨1, 1, 0, 0⟩ : S87), (⟨2, 1, 2, 0⟩ : S87), (⟨3, 2, 4, 0⟩ : S87), (⟨3, 6, 8, 0⟩ : S87)] : List (S87))) := ⟨_, rfl⟩
  replace H : (some y180) = some r := rh
  have Ny180 := aE hy_
  clear hy_
  obtain rfl := Option.some.inj H
  go_enter Tryd.func59, Tryd.ntmps59
  go_wp2_with (first | ((with_reducible refine gd 14 rfl ?_); refine Kd.R_lit k87 _ 87 ?hg (N := 14) ?hd (xs := ([(⟨1, 1, 0, 0⟩ : S87), (⟨2, 1, 2, 0⟩ : S87), (⟨3, 2, 4, 0⟩ : S87), (⟨3, 6, 8, 0⟩ : S87)] : List (S87))) (inner := [.int .i64 1, .int .i64 1, .int .i64 0, .int .i64 0, .int .i64 2, .int .i64 1, .int .i64 2, .int .i64 0, .int .i64 3, .int .i64 2, .int .i64 4, .int .i64 0, .int .i64 3, .int .i64 6, .int .i64 8, .int .i64 0]) (ok := fun _ => True) (okp := fun _ => True) ?hr ?hp (fun _ hk => hk) trivial (Below.refl _ _) (Nat.le_refl _) (by simp) ?_; (case hd => rfl); (case hg => rfl); (case hr => first | (go_simp; done) | (go_simp; rfl)); (case hp => exact (Reps.c4 (show Kd.M k87 _ _ _ (⟨1, 1, 0, 0⟩ : S87) [.int .i64 1, .int .i64 1, .int .i64 0, .int .i64 0] from (k87_mkM _ _ _ (⟨1, 1, 0, 0⟩ : S87) )) (Reps.c4 (show Kd.M k87 _ _ _ (⟨2, 1, 2, 0⟩ : S87) [.int .i64 2, .int .i64 1, .int .i64 2, .int .i64 0] from (k87_mkM _ _ _ (⟨2, 1, 2, 0⟩ : S87) )) (Reps.c4 (show Kd.M k87 _ _ _ (⟨3, 2, 4, 0⟩ : S87) [.int .i64 3, .int .i64 2, .int .i64 4, .int .i64 0] from (k87_mkM _ _ _ (⟨3, 2, 4, 0⟩ : S87) )) (Reps.c4 (show Kd.M k87 _ _ _ (⟨3, 6, 8, 0⟩ : S87) [.int .i64 3, .int .i64 6, .int .i64 8, .int .i64 0] from (k87_mkM _ _ _ (⟨3, 6, 8, 0⟩ : S87) )) (Reps.none _ _)))))); intro v181 w5 ho6 hb hg_ hnew_; clear hg_ hnew_; (first | rw [← Ny180.out] at ho6 | (simp only [Int.reduceToNat] at ho6; rw [← Ny180.out] at ho6)); have n_ := aC (Kd.R_lower ho6 bz) (aE (bs hb)); clear HB; obtain ⟨HO182, HB⟩ := n_; clear hb ho6))
  go_ret
  exact ⟨_, re, rU HO182.out, bl⟩

end Go.Proofs.YtknclbodinfbeaaDoor.PRunsAgain
