-- printed (wip/tools/myprint.py)
import Derived.Test.YtidgpjcgoocpeaaDoorPTopRunsx0
import Derived.Test.YtidgpjcgoocpeaaDoorPTopRunsx4
import Derived.Test.YtidgpjcgoocpeaaDoorPTopRunsx5
import Derived.Test.YtidgpjcgoocpeaaDoorPTopRunsx7
import Derived.Test.YtidgpjcgoocpeaaDoorPTopRunsx8
namespace Go.Proofs.YtidgpjcgoocpeaaDoor.PTopRuns
open Go.RowKit Go.Proofs.YtidgpjcgoocpeaaDoorW.PrintWords Go.Proofs.YtidgpjcgoocpeaaDoorW.PrintLast Go.Proofs.YtidgpjcgoocpeaaDoorW.PrintMore
attribute [local go_sem] max2_int min2_int max_two min_two max_three min_three max_four min_four
set_option linter.unusedVariables false
set_option linter.unusedSimpArgs false
def runs_mode_bits.f (k : Nat) (a0_0 : ByteArray) (a0_1 : Int) (a0_2 : Int) (a0_3 : Int) (a0_4 : Int) : Option (List Int) := if a0_0.toList = ([112, 97, 115, 115] : List UInt8) then ((runs_list.f k (⟨#[48, 48, 48, 49]⟩ : ByteArray)).bind fun t332 => (some t332)) else (if a0_0.toList = ([117, 112] : List UInt8) then ((runs_uprights.f).bind fun t335 => (if 0 ≤ (wrap64 (a0_1 + 3)) then (if (wrap64 (a0_1 + 3)) < (t335.length : Int) then ((runs_list.f k (rdOf ByteArray.empty t335 (wrap64 (a0_1 + 3)))).bind fun t339 => (some t339)) else (none)) else (none))) else ((runs_list.f k (⟨#[48, 48, 49]⟩ : ByteArray)).bind fun t342 => ((runs_runBits.f k a0_2 a0_4).bind fun t345 => (if t342.length + t345.length < 140737488355328 then ((some (t342 ++ t345 : List Int)).bind fun y348 => ((runs_runBits.f k a0_3 (wrap64 (1 - a0_4))).bind fun t351 => (if y348.length + t351.length < 140737488355328 then (some (y348 ++ t351)) else (none)))) else (none)))))
theorem runs_mode_bits.mono : ∀ a0 a1 a2 a3 a4 k, LeO (runs_mode_bits.f k a0 a1 a2 a3 a4) (runs_mode_bits.f (k + 1) a0 a1 a2 a3 a4) := by
 intro a0 a1 a2 a3 a4 k
 unfold runs_mode_bits.f
 repeat' first
   | (with_reducible exact runs_list.mono _ _)
   | (with_reducible exact runs_runBits.mono _ _ _)
   | (with_reducible first | exact LeO.refl _ | exact LeO.none _ | refine LeO.ite ?_ ?_ | refine LeO.bind ?_ (fun _ => ?_))
def runs_mode_bits.T5 : Bool × List (List Nat × List Nat) := (true, [([], []), ([], []), ([1], [1]), ([2], [2]), ([0, 3], [0, 3]), ([4], [4]), ([5, 0], [5]), ([6, 6, 0, 1, 2, 3, 4, 5, 6], [6])])
def runs_mode_bits.B5 : List Nat := [0, 0, 2, 6, 15, 31, 63, 127]
theorem runs_mode_bits.tab5 : rtab .any (opsOf Tryd.f26 5) = runs_mode_bits.T5 := by kernel_rfl
theorem runs_mode_bits.bits5 : waitsOk runs_mode_bits.T5.2 runs_mode_bits.B5 = true := by kernel_rfl
def runs_mode_bits.T6 : Bool × List (List Nat × List Nat) := (true, [([], []), ([], []), ([1], [1]), ([2], [2]), ([], []), ([4], [4]), ([3, 5, 0], [3, 5]), ([0, 6, 6], [0, 6]), ([], []), ([8], [8]), ([9], [9]), ([], []), ([11], [11]), ([12], [12]), ([10, 13, 7], [10, 13]), ([7, 14, 14], [7, 14]), ([15, 15, 0, 1, 2, 3, 4, 5, 6, 7, 8, 9, 10, 11, 12, 13, 14, 15], [15])])
def runs_mode_bits.B6 : List Nat := [0, 0, 2, 6, 0, 16, 63, 127, 0, 256, 768, 0, 2048, 6144, 16383, 32767, 65535]
theorem runs_mode_bits.tab6 : rtab .any (opsOf Tryd.f26 6) = runs_mode_bits.T6 := by kernel_rfl
theorem runs_mode_bits.bits6 : waitsOk runs_mode_bits.T6.2 runs_mode_bits.B6 = true := by kernel_rfl
set_option maxHeartbeats 8000000 in
set_option maxRecDepth 100000 in
theorem runs_mode_bits.calls (k : Nat) (a0_0 : ByteArray) (a0_1 : Int) (a0_2 : Int) (a0_3 : Int) (a0_4 : Int) (r : List Int) (w : World) (h : runs_mode_bits.f k a0_0 a0_1 a0_2 a0_3 a0_4 = some r) :
  Calls Tryd.prog 26 #[.agg #[.string a0_0, .int .i64 a0_1, .int .i64 a0_2, .int .i64 a0_3, .int .i64 a0_4]] w fun e w' => ∃ v0_ : Value, e = .returned (v0_) ∧ Kd.U (Kd.int .u8) 5 w' w.heap.size (fun _ => True) v0_ r ∧ Below w.heap.size w w' := by
 have hu56 := Tryd.underlying56
 have HB := Aside0.mk (Below.refl w.heap.size w)
 have H := h
 unfold runs_mode_bits.f at H
 clear h
 rcases iE H with H1 | H1 <;> clear H <;> obtain ⟨H, c2b0, c2b1, c2⟩ := H1
 ·obtain ⟨t332, A3, H⟩ := oB H
  try dsimp only at H
  obtain rfl := Option.some.inj H
  go_enter Tryd.func26, Tryd.ntmps26
  go_wp2_with (first | ((with_reducible refine gd 1 rfl ?_); refine bx 1 #[.string a0_0, .int .i64 a0_1, .int .i64 a0_2, .int .i64 a0_3, .int .i64 a0_4] 56 rfl rfl ?_; intro gb331 hg w4 hbox hb; have n_ := aC (bs hb) (aC hbox (aC (gz hg) (aE (gz hg)))); clear HB; obtain ⟨HB, BK331, GW331, GE331⟩ := n_; clear hb hbox hg; obtain ⟨hcz5_0, hcz5_1, hcz5_2, hcz5_3, hcz5_4, hfz5_0, hfz5_1, hfz5_2, hfz5_3, hfz5_4⟩ := cz5f BK331.out) | (refine gF 42 7 Tryd.func42 #[.string (⟨#[48, 48, 48, 49]⟩ : ByteArray)] rfl rfl ?_; (with_reducible refine (runs_list.calls k (⟨#[48, 48, 48, 49]⟩ : ByteArray) t332 _ A3.out).mono ?_); rintro e w6 ⟨v333, rfl, ho0, hb⟩; refine ⟨_, rfl, ?_⟩; have n_ := aC (Kd.U_lower ho0 bz) (aC (blk_below (bU BK331.out) hb) (aE (bs hb))); clear BK331 HB; obtain ⟨HO334, BK331, HB⟩ := n_))
  go_ret
  exact ⟨_, re, by (with_reducible repeat (first | apply Kd.U_alloc | apply Kd.U_drewN | apply Kd.U_drew)); exact HO334.out, bl⟩
 ·rcases iE H with H1 | H1 <;> clear H <;> obtain ⟨H, c7b0, c7b1, c7⟩ := H1
  ·obtain ⟨t335, A8, H⟩ := oB H
   try dsimp only at H
   obtain ⟨ji9, hji9⟩ : ∃ j_ : Int, (wrap64 (a0_1 + 3)) = j_ := ⟨_, rfl⟩
   replace H : (if 0 ≤ (ji9) then (if (ji9) < (t335.length : Int) then ((runs_list.f k (rdOf ByteArray.empty t335 (ji9))).bind fun t339 => (some t339)) else (none)) else (none)) = some r := by first | (rw [hji9] at H; exact H) | (simp only [hji9] at H ⊢; exact H)
   (try rw [hji9] at A8)
   have hji9w : (IntKind.i64.wrap (a0_1 + 3)) = ji9 := (i64_w _).trans hji9
   by_cases c10 : 0 ≤ (ji9)
   ·rw [if_pos c10] at H
    have c10b0 := decide_eq_true c10
    clear c10
    by_cases c11 : (ji9) < (t335.length : Int)
    ·rw [if_pos c11] at H
     have c11b0 := decide_eq_true c11
     clear c11
     obtain ⟨t339, A12, H⟩ := oB H
     try dsimp only at H
     obtain rfl := Option.some.inj H
     go_enter Tryd.func26, Tryd.ntmps26
     try go_wp2_with (first | ((with_reducible refine gd 1 rfl ?_); refine bx 1 #[.string a0_0, .int .i64 a0_1, .int .i64 a0_2, .int .i64 a0_3, .int .i64 a0_4] 56 rfl rfl ?_; intro gb331 hg w13 hbox hb; have n_ := aC (bs hb) (aC hbox (aC (gz hg) (aE (gz hg)))); clear HB; obtain ⟨HB, BK331, GW331, GE331⟩ := n_; clear hb hbox hg; obtain ⟨hcz14_0, hcz14_1, hcz14_2, hcz14_3, hcz14_4, hfz14_0, hfz14_1, hfz14_2, hfz14_3, hfz14_4⟩ := cz5f BK331.out))
     have n_ := aC (blk_drew BK331.out) (aE (below_drew1 HB.out))
     clear BK331 HB
     obtain ⟨BK331, HB⟩ := n_
     refine st 8 (fun w' => w'.cell? ⟨gb331, 0, none⟩ = some (.string a0_0) ∧ w'.cell? ⟨gb331, 1, none⟩ = some (.int .i64 a0_1) ∧ w'.cell? ⟨gb331, 2, none⟩ = some (.int .i64 a0_2) ∧ w'.cell? ⟨gb331, 3, none⟩ = some (.int .i64 a0_3) ∧ w'.cell? ⟨gb331, 4, none⟩ = some (.int .i64 a0_4)) [] (bv 8 0) runs_mode_bits.tab5 runs_mode_bits.bits5 ⟨kc0 BK331.out, kc1 BK331.out, kc2 BK331.out, kc3 BK331.out, kc4 BK331.out⟩ (fun hHeld HT_ HW_ => ?_)
     generalize w13.drew = w15 at BK331 HB hHeld ⊢
     refine pu 1 11 (bv 8 2) HT_ rfl rfl ?_
     refine tk 2 12 (bv 8 6) HT_ HW_ hHeld rfl rfl (by rintro w' ⟨s0, s1, s2, s3, s4⟩; exact yl) ?_
     refine pu 3 13 (bv 8 14) HT_ rfl rfl ?_
     refine one_ (i := 0) (N := some 10) (bv 8 15) rfl rfl (one_of HT_.out (by kernel_rfl)) (by decide) (fun K hK => ?_)
     refine gK Tryd.func43 rfl #[] rfl rfl ?_
     with_reducible refine (runs_uprights.calls  t335 _ A8.out).mono ?_
     rintro e w16 ⟨v336, rfl, ho0, hb⟩
     refine ⟨_, rfl, ?_⟩
     have n_ := aC (Kd.R_lower ho0 bz) (aC (blk_below (bU BK331.out) hb) (aE (bs hb)))
     clear BK331 HB
     obtain ⟨HO337, BK331, HB⟩ := n_
     (try clear hb)
     (try clear hb2)
     (try clear hk)
     (try clear hi)
     (try clear ho0)
     obtain ⟨Ao17, co17, eo17⟩ := Kd.R_slice HO337.out
     (first | subst eo17 | (injection eo17 with f1_ f2_ f3_; have f4_ := f1_.symm; have f5_ := f3_.symm; clear f1_ f2_ f3_; subst f4_; subst f5_))
     have p338 : 0 ≤ ((ji9) : Int) := dt
     have q338 : (ji9) < (t335.length : Int) := dt
     obtain ⟨ad338, e338, hx338_0⟩ := Kd.at_string (Kd.R_reads' HO337.out).2.2 (ji9) p338 q338
     cases e338
     replace p338 := eq_true p338
     replace q338 := eq_true q338
     refine hK.out _ _ ⟨kc0 BK331.out, kc1 BK331.out, kc2 BK331.out, kc3 BK331.out, kc4 BK331.out⟩ (fun hHeld => ?_)
     clear hK K
     refine nm (some 10) ?_
     refine pu 4 14 (bv 8 31) HT_ rfl rfl ?_
     refine ld 5 15 #[true, true, true, true, true, true, false, false] HT_ rfl rfl hHeld (by go_simp; with_reducible rfl) ?_
     refine one_ (i := 6) (N := some 16) (bv 8 127) rfl rfl (one_of HT_.out (by kernel_rfl)) (by decide) (fun K hK => ?_)
     refine goes_ Tryd.func42 (by kernel_rfl) rfl #[.string (rdOf ByteArray.empty t335 (ji9))] (by rfl) rfl rfl (by (try simp only [List.map_toArray, List.map_cons, List.map_nil]); first | done | (simp only [hji9]; rfl) | rfl | (simp only [List.length_drop, List.length_take]; rfl)) ?_
     with_reducible refine (runs_list.calls k (rdOf ByteArray.empty t335 (ji9)) t339 _ A12.out).mono ?_
     rintro e w18 ⟨v340, rfl, ho0, hb⟩
     refine ⟨_, rfl, ?_⟩
     have n_ := aC (Kd.R_below (rU HO337.out) hb) (aC (Kd.U_lower ho0 bz) (aC (blk_below (bU BK331.out) hb) (aE (bs hb))))
     clear HO337 BK331 HB
     obtain ⟨HO337, HO341, BK331, HB⟩ := n_
     (try clear hb)
     (try clear hb2)
     (try clear hk)
     (try clear hi)
     (try clear ho0)
     refine hK.out _ _ ⟨kc0 BK331.out, kc1 BK331.out, kc2 BK331.out, kc3 BK331.out, kc4 BK331.out⟩ (fun hHeld => ?_)
     clear hK K
     refine nm (some 16) ?_
     refine pu 7 2 (bv 8 255) HT_ rfl rfl ?_
     refine done_ (done_of HT_.out (by kernel_rfl)) ?_
     try go_wp2
     go_ret
     exact ⟨_, by first | rfl | (simp [errW_none, errW_some] <;> rfl) | (simp only [← hji9]; first | rfl | (simp [errW_none, errW_some] <;> rfl)) | (simp [*, errW_none, errW_some] <;> rfl), by (with_reducible repeat (first | apply Kd.U_alloc | apply Kd.U_drewN | apply Kd.U_drew)); exact HO341.out, bl⟩
    ·rw [if_neg c11] at H
     exact absurd H (by simp)
   ·rw [if_neg c10] at H
    exact absurd H (by simp)
  ·obtain ⟨t342, A19, H⟩ := oB H
   try dsimp only at H
   obtain ⟨t345, A20, H⟩ := oB H
   try dsimp only at H
   by_cases c21 : t342.length + t345.length < 140737488355328
   ·rw [if_pos c21] at H
    have LMc21 := Aside0.mk c21
    clear c21
    obtain ⟨y348, hy_⟩ : ∃ y_ : List Int, y_ = (t342 ++ t345) := ⟨_, rfl⟩
    replace H : ((runs_runBits.f k a0_3 (wrap64 (1 - a0_4))).bind fun t351 => (if y348.length + t351.length < 140737488355328 then (some (y348 ++ t351)) else (none))) = some r := rh
    have Ny348 := aE hy_
    clear hy_
    obtain ⟨t351, A22, H⟩ := oB H
    try dsimp only at H
    by_cases c23 : y348.length + t351.length < 140737488355328
    ·rw [if_pos c23] at H
     have LMc23 := Aside0.mk c23
     clear c23
     obtain ⟨y354, hy_⟩ : ∃ y_ : List Int, y_ = (y348 ++ t351) := ⟨_, rfl⟩
     replace H : (some y354) = some r := rh
     have Ny354 := aE hy_
     clear hy_
     obtain rfl := Option.some.inj H
     go_enter Tryd.func26, Tryd.ntmps26
     try go_wp2_with (first | ((with_reducible refine gd 1 rfl ?_); refine bx 1 #[.string a0_0, .int .i64 a0_1, .int .i64 a0_2, .int .i64 a0_3, .int .i64 a0_4] 56 rfl rfl ?_; intro gb331 hg w24 hbox hb; have n_ := aC (bs hb) (aC hbox (aC (gz hg) (aE (gz hg)))); clear HB; obtain ⟨HB, BK331, GW331, GE331⟩ := n_; clear hb hbox hg; obtain ⟨hcz25_0, hcz25_1, hcz25_2, hcz25_3, hcz25_4, hfz25_0, hfz25_1, hfz25_2, hfz25_3, hfz25_4⟩ := cz5f BK331.out))
     have n_ := aC (blk_drew BK331.out) (aE (below_drew1 HB.out))
     clear BK331 HB
     obtain ⟨BK331, HB⟩ := n_
     refine st 17 (fun w' => w'.cell? ⟨gb331, 0, none⟩ = some (.string a0_0) ∧ w'.cell? ⟨gb331, 1, none⟩ = some (.int .i64 a0_1) ∧ w'.cell? ⟨gb331, 2, none⟩ = some (.int .i64 a0_2) ∧ w'.cell? ⟨gb331, 3, none⟩ = some (.int .i64 a0_3) ∧ w'.cell? ⟨gb331, 4, none⟩ = some (.int .i64 a0_4)) [] (bv 17 0) runs_mode_bits.tab6 runs_mode_bits.bits6 ⟨kc0 BK331.out, kc1 BK331.out, kc2 BK331.out, kc3 BK331.out, kc4 BK331.out⟩ (fun hHeld HT_ HW_ => ?_)
     generalize w24.drew = w26 at BK331 HB hHeld ⊢
     refine pu 1 18 (bv 17 2) HT_ rfl rfl ?_
     refine pu 2 19 (bv 17 6) HT_ rfl rfl ?_
     refine pu 4 21 (bv 17 22) HT_ rfl rfl ?_
     refine pu 8 25 (bv 17 278) HT_ rfl rfl ?_
     refine pu 9 26 (bv 17 790) HT_ rfl rfl ?_
     refine pu 11 28 (bv 17 2838) HT_ rfl rfl ?_
     refine tk 3 20 (bv 17 2846) HT_ HW_ hHeld rfl rfl (by rintro w' ⟨s0, s1, s2, s3, s4⟩; exact yl) ?_
     refine tk 5 22 (bv 17 2878) HT_ HW_ hHeld rfl rfl (by rintro w' ⟨s0, s1, s2, s3, s4⟩; exact yl) ?_
     refine tk 10 27 (bv 17 3902) HT_ HW_ hHeld rfl rfl (by rintro w' ⟨s0, s1, s2, s3, s4⟩; exact yl) ?_
     refine tk 12 29 (bv 17 7998) HT_ HW_ hHeld rfl rfl (by rintro w' ⟨s0, s1, s2, s3, s4⟩; exact yl) ?_
     refine pu 13 30 (bv 17 16190) HT_ rfl rfl ?_
     refine one_ (i := 0) (N := some 17) (bv 17 16191) rfl rfl (one_of HT_.out (by kernel_rfl)) (by decide) (fun K hK => ?_)
     refine gK Tryd.func42 rfl #[.string (⟨#[48, 48, 49]⟩ : ByteArray)] rfl rfl ?_
     with_reducible refine (runs_list.calls k (⟨#[48, 48, 49]⟩ : ByteArray) t342 _ A19.out).mono ?_
     rintro e w27 ⟨v343, rfl, ho0, hb⟩
     refine ⟨_, rfl, ?_⟩
     have n_ := aC (Kd.U_lower ho0 bz) (aC (blk_below (bU BK331.out) hb) (aE (bs hb)))
     clear BK331 HB
     obtain ⟨HO344, BK331, HB⟩ := n_
     (try clear hb)
     (try clear hb2)
     (try clear hk)
     (try clear hi)
     (try clear ho0)
     refine hK.out _ _ ⟨kc0 BK331.out, kc1 BK331.out, kc2 BK331.out, kc3 BK331.out, kc4 BK331.out⟩ (fun hHeld => ?_)
     clear hK K
     refine nm (some 17) ?_
     refine one_ (i := 6) (N := some 23) (bv 17 16255) rfl rfl (one_of HT_.out (by kernel_rfl)) (by decide) (fun K hK => ?_)
     refine gK Tryd.func22 rfl #[.int .i64 a0_2, .int .i64 a0_4] rfl rfl ?_
     with_reducible refine (runs_runBits.calls k a0_2 a0_4 t345 _ A20.out).mono ?_
     rintro e w28 ⟨v346, rfl, ho0, hb⟩
     refine ⟨_, rfl, ?_⟩
     have n_ := aC (Kd.U_elder' (by (with_reducible repeat (first | apply Kd.U_alloc | apply Kd.U_drewN | apply Kd.U_drew)); exact HO344.out) (Kd.R_base ho0) hb) (aC (Kd.R_lower (Kd.R_new' ho0 (Kd.U_lt (by (with_reducible repeat (first | apply Kd.U_alloc | apply Kd.U_drewN | apply Kd.U_drew)); exact HO344.out))) bz) (aC (blk_below (bU BK331.out) hb) (aE (bs hb))))
     clear HO344 BK331 HB
     obtain ⟨HO344, HO347, BK331, HB⟩ := n_
     (try clear hb)
     (try clear hb2)
     (try clear hk)
     (try clear hi)
     (try clear ho0)
     obtain ⟨Ao30, co30, eo30⟩ := Kd.R_slice HO347.out
     (first | subst eo30 | (injection eo30 with f1_ f2_ f3_; have f4_ := f1_.symm; have f5_ := f3_.symm; clear f1_ f2_ f3_; subst f4_; subst f5_))
     refine hK.out _ _ ⟨kc0 BK331.out, kc1 BK331.out, kc2 BK331.out, kc3 BK331.out, kc4 BK331.out⟩ (fun hHeld => ?_)
     clear hK K
     refine nm (some 23) ?_
     refine one_ (i := 7) (N := some 24) (bv 17 16383) rfl rfl (one_of HT_.out (by kernel_rfl)) (by decide) (fun K hK => ?_)
     refine Kd.U_append_rows_step (Kd.int .u8) (w0 := w) w.heap.size (by rfl) (.tmp 17) (.tmp 23) 22 5 (.int .u8 0) 1 rfl Tryd.underlying22 info5 rfl (by decide) (by omega) v343 t342 t345 _ _ _ (fun k_ => some k_ ≠ (.slice Ao30 t345.length co30 : Value).ownBlock) (fun _ => False) rfl rfl ?aO ?aR (fun _ _ h => h) (fun _ h => h.elim) ?aF ?aB ?aS ?aL rfl ?_
     (case aR => repeat (first | exact (Kd.R_reads' HO347.out).2.2 | (with_reducible refine Kd.C_alloc ?_ _) | (with_reducible refine Kd.C_drewN ?_ _) | (with_reducible refine Kd.C_drew ?_)))
     (case aB => exact bl)
     (case aF => exact (fun k_ hk => Kd.fresh' (Kd.R_lt (rU HO347.out)) k_ hk))
     (case aO => exact (by (with_reducible repeat (first | apply Kd.U_alloc | apply Kd.U_drewN | apply Kd.U_drew)); exact Kd.U_mono HO344.out (fun _ hk => hk.2)))
     (case aS => exact bz)
     (case aL => have := LMc21.out; omega)
     intro v349 w29 ho hb hg hat
     rw [← Ny348.out] at ho
     have n_ := aC (blk_grown (bU BK331.out) hg (Kd.U_ne HO344.out BK331.out (by decide))) (aC (Kd.R_after (ok := (fun _ => True)) (rU HO347.out) hg hat) (aC hb (aE ho)))
     clear BK331 HO347 HB HO344
     obtain ⟨BK331, HO347, HB, HO350⟩ := n_
     clear ho hb hg hat
     refine hK.out _ _ ⟨kc0 BK331.out, kc1 BK331.out, kc2 BK331.out, kc3 BK331.out, kc4 BK331.out⟩ (fun hHeld => ?_)
     clear hK K
     refine nm (some 24) ?_
     refine one_ (i := 14) (N := some 31) (bv 17 32767) rfl rfl (one_of HT_.out (by kernel_rfl)) (by decide) (fun K hK => ?_)
     refine gK Tryd.func22 rfl #[.int .i64 a0_3, .int .i64 (wrap64 (1 - a0_4))] rfl rfl ?_
     with_reducible refine (runs_runBits.calls k a0_3 (wrap64 (1 - a0_4)) t351 _ A22.out).mono ?_
     rintro e w31 ⟨v352, rfl, ho0, hb⟩
     refine ⟨_, rfl, ?_⟩
     have n_ := aC (Kd.R_elder' (rU HO347.out) (Kd.R_base ho0) hb) (aC (Kd.U_elder' (by (with_reducible repeat (first | apply Kd.U_alloc | apply Kd.U_drewN | apply Kd.U_drew)); exact HO350.out) (Kd.R_base ho0) hb) (aC (Kd.R_lower (Kd.R_new' (Kd.R_new' ho0 (Kd.R_lt (rU HO347.out))) (Kd.U_lt (by (with_reducible repeat (first | apply Kd.U_alloc | apply Kd.U_drewN | apply Kd.U_drew)); exact HO350.out))) bz) (aC (blk_below (bU BK331.out) hb) (aE (bs hb)))))
     clear HO347 HO350 BK331 HB
     obtain ⟨HO347, HO350, HO353, BK331, HB⟩ := n_
     (try clear hb)
     (try clear hb2)
     (try clear hk)
     (try clear hi)
     (try clear ho0)
     obtain ⟨Ao33, co33, eo33⟩ := Kd.R_slice HO353.out
     (first | subst eo33 | (injection eo33 with f1_ f2_ f3_; have f4_ := f1_.symm; have f5_ := f3_.symm; clear f1_ f2_ f3_; subst f4_; subst f5_))
     refine hK.out _ _ ⟨kc0 BK331.out, kc1 BK331.out, kc2 BK331.out, kc3 BK331.out, kc4 BK331.out⟩ (fun hHeld => ?_)
     clear hK K
     refine nm (some 31) ?_
     refine one_ (i := 15) (N := some 32) (bv 17 65535) rfl rfl (one_of HT_.out (by kernel_rfl)) (by decide) (fun K hK => ?_)
     refine Kd.U_append_rows_step (Kd.int .u8) (w0 := w) w.heap.size (by rfl) (.tmp 24) (.tmp 31) 22 5 (.int .u8 0) 1 rfl Tryd.underlying22 info5 rfl (by decide) (by omega) v349 y348 t351 _ _ _ (fun k_ => some k_ ≠ (.slice Ao30 t345.length co30 : Value).ownBlock ∧ some k_ ≠ (.slice Ao33 t351.length co33 : Value).ownBlock) (fun _ => False) rfl rfl ?aO ?aR (fun _ _ h => h) (fun _ h => h.elim) ?aF ?aB ?aS ?aL rfl ?_
     (case aR => repeat (first | exact (Kd.R_reads' HO353.out).2.2 | (with_reducible refine Kd.C_alloc ?_ _) | (with_reducible refine Kd.C_drewN ?_ _) | (with_reducible refine Kd.C_drew ?_)))
     (case aB => exact bl)
     (case aF => exact (fun k_ hk => ⟨Kd.fresh' (Kd.R_lt (rU HO347.out)) k_ hk, Kd.fresh' (Kd.R_lt (rU HO353.out)) k_ hk⟩))
     (case aO => exact (by (with_reducible repeat (first | apply Kd.U_alloc | apply Kd.U_drewN | apply Kd.U_drew)); exact HO350.out))
     (case aS => exact bz)
     (case aL => have := LMc23.out; omega)
     intro v355 w32 ho hb hg hat
     rw [← Ny354.out] at ho
     have n_ := aC (blk_grown (bU BK331.out) hg (Kd.U_ne HO350.out BK331.out (by decide))) (aC (Kd.R_after (ok := (fun k_ => some k_ ≠ (.slice Ao33 t351.length co33 : Value).ownBlock)) (rU (Kd.R_mono HO347.out (fun _ hk => ⟨hk.2, hk.1.2⟩))) hg hat) (aC (Kd.R_after (ok := (fun k_ => some k_ ≠ (.slice Ao30 t345.length co30 : Value).ownBlock)) (rU (Kd.R_mono HO353.out (fun _ hk => ⟨hk.1.2, hk.2⟩))) hg hat) (aC hb (aE ho))))
     clear BK331 HO347 HO353 HB HO350
     obtain ⟨BK331, HO347, HO353, HB, HO356⟩ := n_
     clear ho hb hg hat
     refine hK.out _ _ ⟨kc0 BK331.out, kc1 BK331.out, kc2 BK331.out, kc3 BK331.out, kc4 BK331.out⟩ (fun hHeld => ?_)
     clear hK K
     refine nm (some 32) ?_
     refine pu 16 2 (bv 17 131071) HT_ rfl rfl ?_
     refine done_ (done_of HT_.out (by kernel_rfl)) ?_
     try go_wp2
     go_ret
     exact ⟨_, re, by (with_reducible repeat (first | apply Kd.U_alloc | apply Kd.U_drewN | apply Kd.U_drew)); exact Kd.U_mono HO356.out (fun _ hk => trivial), bl⟩
    ·rw [if_neg c23] at H
     exact absurd H (by simp)
   ·rw [if_neg c21] at H
    exact absurd H (by simp)
mutual
def runs_Two.l0 : Nat → List Int → List Int → List (List Int) → Int → Int → Option (List Int × Int)
 | 0, _, _, _, _, _ => none
 | k + 1, x4, x5, x17, x18, x19 => if x19 < x18 then (if 0 ≤ x19 then (if x19 < (x17.length : Int) then ((runs_modes.f k x5 (rd_L8 x17 x19)).bind fun t370 => (runs_Two.l1 k x4 (rd_L8 x17 x19) x17 x18 x19 t370 (t370.length : Int) 0)) else (none)) else (none)) else ((bits_Pack.f k x4).bind fun bt365 => (some (bt365.1, bt365.2)))
def runs_Two.l1 : Nat → List Int → List Int → List (List Int) → Int → Int → List (S56) → Int → Int → Option (List Int × Int)
 | 0, _, _, _, _, _, _, _, _ => none
 | k + 1, x4, x7, x17, x18, x19, x25, x26, x27 => if x27 < x26 then (if 0 ≤ x27 then (if x27 < (x25.length : Int) then ((runs_mode_bits.f k ((rd_T56 x25 x27).f0) ((rd_T56 x25 x27).f1) ((rd_T56 x25 x27).f2.f0) ((rd_T56 x25 x27).f2.f1) ((rd_T56 x25 x27).f3)).bind fun t375 => (if x4.length + t375.length < 140737488355328 then (runs_Two.l1 k (x4 ++ t375) x7 x17 x18 x19 x25 x26 (wrap64 (x27 + 1))) else (none))) else (none)) else (none)) else (runs_Two.l0 k x4 x7 x17 x18 (wrap64 (x19 + 1)))
end
def runs_Two.f (k : Nat) (a0_0 : Int) (a0_1 : Int) (l0_2 : List Int) : Option (List Int × Int) := (bitmap_Valid.f k a0_0 a0_1 l0_2).bind fun t358 => (if t358 = true then (if 0 ≤ a0_0 then (if (a0_0 : Int).toNat ≤ 281474976710656 then ((runs_lines.f k a0_0 a0_1 l0_2).bind fun t362 => (runs_Two.l0 k ([] : List Int) (List.replicate (a0_0 : Int).toNat 0) t362 (t362.length : Int) 0)) else (none)) else (none)) else (some (([] : List Int), 30)))
theorem runs_Two.mono_l : ∀ k, (∀ y0 y1 y2 y3 y4, LeO (runs_Two.l0 k y0 y1 y2 y3 y4) (runs_Two.l0 (k + 1) y0 y1 y2 y3 y4)) ∧ (∀ y0 y1 y2 y3 y4 y5 y6 y7, LeO (runs_Two.l1 k y0 y1 y2 y3 y4 y5 y6 y7) (runs_Two.l1 (k + 1) y0 y1 y2 y3 y4 y5 y6 y7))
 | 0 => ⟨fun _ _ _ _ _ r h => by simp [runs_Two.l0] at h, fun _ _ _ _ _ _ _ _ r h => by simp [runs_Two.l1] at h⟩
 | k + 1 => by
  obtain ⟨ih0, ih1⟩ := runs_Two.mono_l k
  refine ⟨?_, ?_⟩
  ·intro y0 y1 y2 y3 y4
   unfold runs_Two.l0
   repeat' first
   | (with_reducible exact ih0 _ _ _ _ _)
   | (with_reducible exact ih1 _ _ _ _ _ _ _ _)
   | (with_reducible exact bitmap_Valid.mono _ _ _ _)
   | (with_reducible exact bits_Pack.mono _ _)
   | (with_reducible exact runs_lines.mono _ _ _ _)
   | (with_reducible exact runs_mode_bits.mono _ _ _ _ _ _)
   | (with_reducible exact runs_modes.mono _ _ _)
   | (with_reducible first | exact LeO.refl _ | exact LeO.none _ | refine LeO.ite ?_ ?_ | refine LeO.bind ?_ (fun _ => ?_))
  ·intro y0 y1 y2 y3 y4 y5 y6 y7
   unfold runs_Two.l1
   repeat' first
   | (with_reducible exact ih0 _ _ _ _ _)
   | (with_reducible exact ih1 _ _ _ _ _ _ _ _)
   | (with_reducible exact bitmap_Valid.mono _ _ _ _)
   | (with_reducible exact bits_Pack.mono _ _)
   | (with_reducible exact runs_lines.mono _ _ _ _)
   | (with_reducible exact runs_mode_bits.mono _ _ _ _ _ _)
   | (with_reducible exact runs_modes.mono _ _ _)
   | (with_reducible first | exact LeO.refl _ | exact LeO.none _ | refine LeO.ite ?_ ?_ | refine LeO.bind ?_ (fun _ => ?_))
theorem runs_Two.mono : ∀ a0 a1 a2 k, LeO (runs_Two.f k a0 a1 a2) (runs_Two.f (k + 1) a0 a1 a2) := by
 intro a0 a1 a2 k
 obtain ⟨ih0, ih1⟩ := runs_Two.mono_l k
 unfold runs_Two.f
 repeat' first
   | (with_reducible exact ih0 _ _ _ _ _)
   | (with_reducible exact ih1 _ _ _ _ _ _ _ _)
   | (with_reducible exact bitmap_Valid.mono _ _ _ _)
   | (with_reducible exact bits_Pack.mono _ _)
   | (with_reducible exact runs_lines.mono _ _ _ _)
   | (with_reducible exact runs_mode_bits.mono _ _ _ _ _ _)
   | (with_reducible exact runs_modes.mono _ _ _)
   | (with_reducible first | exact LeO.refl _ | exact LeO.none _ | refine LeO.ite ?_ ?_ | refine LeO.bind ?_ (fun _ => ?_))
set_option maxHeartbeats 8000000 in
set_option maxRecDepth 100000 in
theorem runs_Two.calls (k : Nat) (a0_0 : Int) (a0_1 : Int) (A0_2 : Option Addr) (c0_2 : Nat) (l0_2 : List Int) (r1 : List Int) (r2 : Int) (w : World) (hr0_2 : Kd.C (Kd.int .u8) w A0_2 l0_2.length l0_2) (hc0_2 : l0_2.length ≤ c0_2) (h : runs_Two.f k a0_0 a0_1 l0_2 = some (r1, r2)) :
  Calls Tryd.prog 11 #[.agg #[.int .i64 a0_0, .int .i64 a0_1, .slice A0_2 l0_2.length c0_2]] w fun e w' => ∃ v0_ : Value, e = .returned (.tuple #[v0_, .int .i64 r2]) ∧ Kd.R (Kd.int .u8) 5 w' w.heap.size (fun _ => True) v0_ r1 ∧ Below w.heap.size w w' := by
 have hu24 := Tryd.underlying24
 have hu56 := Tryd.underlying56
 have HR0_2 := Aside0.mk hr0_2
 have HC0_2 := Aside0.mk hc0_2
 clear hr0_2 hc0_2
 have HB := Aside0.mk (Below.refl w.heap.size w)
 have H := h
 unfold runs_Two.f at H
 clear h
 obtain ⟨t358, A2, H⟩ := oB H
 try dsimp only at H
 by_cases c3 : t358 = true
 ·subst c3
  rw [if_pos rfl] at H
  by_cases c4 : 0 ≤ a0_0
  ·rw [if_pos c4] at H
   have c4b0 := eq_true c4
   have c4b1 := decide_eq_true c4
   clear c4
   by_cases c5 : (a0_0 : Int).toNat ≤ 281474976710656
   ·rw [if_pos c5] at H
    have c5b0 := eq_true c5
    have c5b1 := decide_eq_true c5
    clear c5
    obtain ⟨y359, hy_⟩ : ∃ y_ : List Int, y_ = (List.replicate (a0_0 : Int).toNat 0) := ⟨_, rfl⟩
    replace H : ((runs_lines.f k a0_0 a0_1 l0_2).bind fun t362 => (runs_Two.l0 k ([] : List Int) y359 t362 (t362.length : Int) 0)) = some (r1, r2) := rh
    have Ny359 := aE hy_
    clear hy_
    obtain ⟨t362, A6, H⟩ := oB H
    try dsimp only at H
    have H' := Aside0.mk H
    clear H
    go_enter Tryd.func11, Tryd.ntmps11
    go_wp2_with (first | ((with_reducible refine gd 1 rfl ?_); refine bx 1 #[.int .i64 a0_0, .int .i64 a0_1, .slice A0_2 l0_2.length c0_2] 24 rfl rfl ?_; intro gb357 hg w7 hbox hb; have n_ := aC (bs hb) (aC hbox (aC (gz hg) (aE (gz hg)))); clear HB; obtain ⟨HB, BK357, GW357, GE357⟩ := n_; clear hb hbox hg; obtain ⟨hcz8_0, hcz8_1, hcz8_2, hfz8_0, hfz8_1, hfz8_2⟩ := cz3f BK357.out) | (refine gF 23 11 Tryd.func23 #[.agg #[.int .i64 a0_0, .int .i64 a0_1, .slice A0_2 l0_2.length c0_2]] rfl rfl ?_; (with_reducible refine (bitmap_Valid.calls k a0_0 a0_1 _ _ l0_2 true _ ?side1 ?side2 A2.out).mono ?_); (case side1 => exact cU (Kd.C_below HR0_2.out HB.out)); (case side2 => exact HC0_2.out); rintro e w9 ⟨rfl, hb⟩; refine ⟨_, rfl, ?_⟩; have n_ := aC (blk_below (bU BK357.out) hb) (aE (bs hb)); clear BK357 HB; obtain ⟨BK357, HB⟩ := n_; obtain ⟨hcz10_0, hcz10_1, hcz10_2, hfz10_0, hfz10_1, hfz10_2⟩ := cz3f BK357.out) | ((with_reducible refine gd 15 rfl ?_); refine Kd.R_make (Kd.int .u8) _ 5 rfl (N := 15) rfl 22 _ _ rfl a0_0 rfl rfl Tryd.underlying22 (.int .u8 0) 1 info5 rfl (by decide) (by omega) 0 (ok := fun _ => True) (okp := fun _ => True) rfl (fun _ hk => hk) trivial (dt) (Nat.le_trans (Nat.mul_le_mul_right _ (dt : a0_0.toNat ≤ 281474976710656)) (by omega)) (Below.refl _ _) (Nat.le_refl _) ?_; intro v360 w11 ho12 hb hg_ hnew_; clear hg_ hnew_; (first | rw [← Ny359.out] at ho12 | (simp only [Int.reduceToNat] at ho12; rw [← Ny359.out] at ho12)); have n_ := aC (Kd.R_lower ho12 bz) (aC (blk_below (bU BK357.out) hb) (aE (bs hb))); clear BK357 HB; obtain ⟨HO361, BK357, HB⟩ := n_; clear hb ho12; obtain ⟨hcz13_0, hcz13_1, hcz13_2, hfz13_0, hfz13_1, hfz13_2⟩ := cz3f BK357.out) | (refine gF 24 17 Tryd.func24 #[.agg #[.int .i64 a0_0, .int .i64 a0_1, .slice A0_2 l0_2.length c0_2]] rfl rfl ?_; (with_reducible refine (runs_lines.calls k a0_0 a0_1 (fun k_ => k_ < w.heap.size) _ _ l0_2 t362 _ ?side1 A6.out).mono ?_); (case side1 => exact Kd.V_mk HC0_2.out (Kd.F_below (Kd.C_F (Kd.heap_int .u8) HR0_2.out) bl)); rintro e w14 ⟨v363, rfl, ho0, hb⟩; refine ⟨_, rfl, ?_⟩; have n_ := aC (Kd.R_below (rU HO361.out) hb) (aC (Kd.N_lower (Kd.N_mono (ok' := fun k_ => some k_ ≠ (v360 : Value).ownBlock ∧ k_ ≠ gb357) ho0 (fun k_ hk_ => ⟨Or.elim hk_ (fun hs_ => fun e_ => Nat.not_le.2 hs_ (Kd.R_base HO361.out k_ e_.symm)) (fun hn_ => (Kd.fresh' (Kd.R_lt (rU HO361.out)) k_ hn_)), Or.elim hk_ (fun hs_ => fun e_ => Nat.not_le.2 hs_ (by rw [e_]; exact GW357.out)) (fun hn_ => (Kd.freshB (bU BK357.out) k_ hn_))⟩)) bz) (aC (blk_below (bU BK357.out) hb) (aE (bs hb)))); clear HO361 BK357 HB; obtain ⟨HO361, HO364, BK357, HB⟩ := n_; obtain ⟨Ao15, co15, eo15⟩ := Kd.N_slice HO364.out; subst eo15))
    go_loopg [4, 5, 19] k (fun kq v4 v5 v19 w' => ∃ (x4_1 : List Int) (x5_1 : List Int) (x19_1 : Int), v19 = .int .i64 x19_1 ∧ Aside0 (runs_Two.l0 kq x4_1 x5_1 t362 (t362.length : Int) x19_1 = some (r1, r2)) ∧ Aside0 (kq ≤ k) ∧ Aside0 (Kd.R (Kd.int .u8) 5 w' w.heap.size (fun _ => True) v4 x4_1) ∧ Aside0 (Kd.V (Kd.int .u8) 5 w' w.heap.size (fun k_ => some k_ ≠ (v4 : Value).ownBlock ∧ k_ ≠ gb357) v5 x5_1) ∧ Aside0 (Kd.N (Kd.slice 5 (Kd.int .u8)) 22 w' w.heap.size (fun k_ => some k_ ≠ (v4 : Value).ownBlock ∧ k_ ≠ gb357) (.slice Ao15 t362.length co15) t362) ∧ Aside0 (w'.heap[gb357]? = some (.cells #[.int .i64 a0_0, .int .i64 a0_1, (.slice A0_2 l0_2.length c0_2)] 24 (0, 0))) ∧ Aside0 (Below w.heap.size w w'))
    case atStart => exact ⟨(([] : List Int)), (y359), (0), rq, H', ⟨Nat.le_refl _⟩, ⟨by first | exact Kd.R_nil _ _ _ _ _ | exact Kd.N_nil _ _ _ _ _ | exact Kd.V_nil _ _ _ _ _ | exact Kd.Q_nil _ _ _ _ _ | exact Kd.S_nil _ _ _ _ _⟩, ⟨Kd.R_V (rU (Kd.R_mono (Kd.R_types HO361.out BK357.out (by decide)) (fun _ hk => ⟨(by simp [Value.ownBlock]), hk.2⟩)))⟩, ⟨by (with_reducible repeat (first | apply Kd.N_alloc | apply Kd.N_drewN | apply Kd.N_drew)); exact Kd.N_mono HO364.out (fun _ hk => ⟨(by simp [Value.ownBlock]), hk.2⟩)⟩, ⟨bU BK357.out⟩, ⟨bl⟩⟩
    case round =>
     clear H'
     obtain ⟨x4_1, x5_1, x19_1, rfl, HA, HK1, HO_4, HO_5, HO_17, BK357, HB⟩ := hrel
     cases gk with
     | zero => exact absurd HA.out (by simp [runs_Two.l0])
     | succ k1 =>
      have H := HA.out
      clear HA
      simp only [runs_Two.l0] at H
      rcases iL H with H1 | H1 <;> clear H <;> obtain ⟨H, c16b0⟩ := H1
      ·by_cases c17 : 0 ≤ x19_1
       ·rw [if_pos c17] at H
        have c17b0 := decide_eq_true c17
        clear c17
        by_cases c18 : x19_1 < (t362.length : Int)
        ·rw [if_pos c18] at H
         have c18b0 := decide_eq_true c18
         clear c18
         obtain ⟨t370, A19, H⟩ := oB H
         try dsimp only at H
         have H' := Aside0.mk H
         clear H
         have p369 : 0 ≤ (x19_1 : Int) := dt
         have q369 : x19_1 < (t362.length : Int) := dt
         obtain ⟨ad369, A369_0, c369_0, e369, hx369_0, hl369_0, hi369_0⟩ := at_L8 (Kd.N_reads' HO_17.out).2.2 x19_1 p369 q369
         cases e369
         obtain ⟨ce369, hce369, hMe369, hcc369⟩ := Kd.N_get HO_17.out [] x19_1 p369 (by first | exact q369 | exact dt | (have e_ := (Kd.N_reads' HO_17.out).1; omega))
         obtain ⟨ua369_0, uc369_0, rfl, ul369_0, ge369_0⟩ := Kd.FK_slice_open hMe369
         have hv369_0 := hcc369 0 _ rfl
         rw [Nat.add_zero, show ((Kd.slice 5 (Kd.int .u8))).sz = 1 from rfl, Nat.mul_one] at hv369_0
         replace hv369_0 := Option.some.inj (hv369_0.symm.trans hx369_0)
         injection hv369_0 with hva_ hvn_ hvc_
         rw [hva_] at ge369_0
         rw [hvc_] at ul369_0
         have HL369_0 := Aside0.mk (show Kd.V (Kd.int .u8) 5 _ w.heap.size _ _ (rd_L8 t362 x19_1) from Kd.V_mk ul369_0 ge369_0)
         clear hva_ hvn_ hvc_ ge369_0 ul369_0
         clear hcc369 hce369
         have HR369_0 := Aside0.mk hi369_0
         have HC369_0 := Aside0.mk hl369_0
         clear hi369_0 hl369_0
         replace p369 := eq_true p369
         replace q369 := eq_true q369
         obtain ⟨Ao20, co20, eo20⟩ := Kd.V_slice HO_5.out
         subst eo20
         go_wp2_with (first | (refine gF 25 25 Tryd.func25 #[.slice Ao20 x5_1.length co20, .slice A369_0 (rd_L8 t362 x19_1).length c369_0] rfl rfl ?_; (with_reducible refine (runs_modes.calls k1 _ _ x5_1 _ _ (rd_L8 t362 x19_1) t370 _ ?side1 ?side2 ?side3 ?side4 A19.out).mono ?_); (case side1 => exact cU (Kd.V_reads' HO_5.out).2.2); (case side2 => exact (Kd.V_reads' HO_5.out).2.1); (case side3 => repeat (first | exact (by repeat (first | (with_reducible exact HR369_0.out) | (with_reducible refine Kd.C_alloc ?_ _) | (with_reducible refine Kd.C_drewN ?_ _) | (with_reducible refine Kd.C_drew ?_) | exact HR369_0.out)) | (with_reducible refine Kd.C_alloc ?_ _) | (with_reducible refine Kd.C_drewN ?_ _) | (with_reducible refine Kd.C_drew ?_))); (case side4 => exact HC369_0.out); rintro e w21 ⟨v371, rfl, ho0, hb⟩; refine ⟨_, rfl, ?_⟩; have n_ := aC (Kd.R_below (rU HO_4.out) hb) (aC (Kd.V_elder' (by (with_reducible repeat (first | apply Kd.V_alloc | apply Kd.V_drewN | apply Kd.V_drew)); exact HO_5.out) (Kd.R_base ho0) hb) (aC (Kd.N_elder' (by (with_reducible repeat (first | apply Kd.N_alloc | apply Kd.N_drewN | apply Kd.N_drew)); exact HO_17.out) (Kd.R_base ho0) hb) (aC (Kd.V_elder' (by (with_reducible repeat (first | apply Kd.V_alloc | apply Kd.V_drewN | apply Kd.V_drew)); exact HL369_0.out) (Kd.R_base ho0) hb) (aC (Kd.R_lower ho0 bz) (aC (blk_below (bU BK357.out) hb) (aC (Kd.C_below (by repeat (first | (with_reducible exact HR369_0.out) | (with_reducible refine Kd.C_alloc ?_ _) | (with_reducible refine Kd.C_drewN ?_ _) | (with_reducible refine Kd.C_drew ?_) | exact HR369_0.out)) hb) (aE (bs hb)))))))); clear HO_4 HO_5 HO_17 HL369_0 BK357 HR369_0 HB; obtain ⟨HO_4, HO_5, HO_17, HL369_0, HO372, BK357, HR369_0, HB⟩ := n_; obtain ⟨Ao22, co22, eo22⟩ := Kd.R_slice HO372.out; subst eo22))
         go_loopg [4, 27] k1 (fun kq v4 v27 w' => ∃ (x4_2 : List Int) (x27_2 : Int), v27 = .int .i64 x27_2 ∧ Aside0 (runs_Two.l1 kq x4_2 (rd_L8 t362 x19_1) t362 (t362.length : Int) x19_1 t370 (t370.length : Int) x27_2 = some (r1, r2)) ∧ Aside0 (kq ≤ k1) ∧ Aside0 (Kd.R (Kd.int .u8) 5 w' w.heap.size (fun _ => True) v4 x4_2) ∧ Aside0 (Kd.V (Kd.int .u8) 5 w' w.heap.size (fun k_ => some k_ ≠ (v4 : Value).ownBlock ∧ some k_ ≠ ((.slice (some ad369) t362.length co15) : Value).ownBlock ∧ some k_ ≠ ((.slice Ao22 t370.length co22) : Value).ownBlock ∧ k_ ≠ gb357) (.slice A369_0 (rd_L8 t362 x19_1).length c369_0) (rd_L8 t362 x19_1)) ∧ Aside0 (Kd.N (Kd.slice 5 (Kd.int .u8)) 22 w' w.heap.size (fun k_ => some k_ ≠ (v4 : Value).ownBlock ∧ some k_ ≠ ((.slice Ao22 t370.length co22) : Value).ownBlock ∧ k_ ≠ gb357) (.slice (some ad369) t362.length co15) t362) ∧ Aside0 (Kd.R k56 56 w' w.heap.size (fun _ => True) (.slice Ao22 t370.length co22) t370) ∧ Aside0 (w'.heap[gb357]? = some (.cells #[.int .i64 a0_0, .int .i64 a0_1, (.slice A0_2 l0_2.length c0_2)] 24 (0, 0))) ∧ Aside0 (Below w.heap.size w w'))
         case atStart => exact ⟨(x4_1), (0), rq, H', ⟨Nat.le_refl _⟩, ⟨rU HO_4.out⟩, ⟨by (with_reducible repeat (first | apply Kd.V_alloc | apply Kd.V_drewN | apply Kd.V_drew)); exact Kd.V_mono HL369_0.out (fun _ hk => ⟨hk.1.1.1, ⟨hk.1.2, ⟨hk.2, hk.1.1.2⟩⟩⟩)⟩, ⟨by (with_reducible repeat (first | apply Kd.N_alloc | apply Kd.N_drewN | apply Kd.N_drew)); exact Kd.N_mono HO_17.out (fun _ hk => ⟨hk.1.1, ⟨hk.2, hk.1.2⟩⟩)⟩, ⟨rU HO372.out⟩, ⟨bU BK357.out⟩, ⟨bl⟩⟩
         case round =>
          clear H'
          obtain ⟨x4_2, x27_2, rfl, HA, HK2, HO_4, HO_7, HO_17, HO_25, BK357, HB⟩ := hrel
          cases gk with
          | zero => exact absurd HA.out (by simp [runs_Two.l1])
          | succ k2 =>
           have H := HA.out
           clear HA
           simp only [runs_Two.l1] at H
           rcases iL H with H1 | H1 <;> clear H <;> obtain ⟨H, c23b0⟩ := H1
           ·by_cases c24 : 0 ≤ x27_2
            ·rw [if_pos c24] at H
             have c24b0 := decide_eq_true c24
             clear c24
             by_cases c25 : x27_2 < (t370.length : Int)
             ·rw [if_pos c25] at H
              have c25b0 := decide_eq_true c25
              clear c25
              obtain ⟨t375, A26, H⟩ := oB H
              try dsimp only at H
              by_cases c27 : x4_2.length + t375.length < 140737488355328
              ·rw [if_pos c27] at H
               have LMc27 := Aside0.mk c27
               clear c27
               obtain ⟨y378, hy_⟩ : ∃ y_ : List Int, y_ = (x4_2 ++ t375) := ⟨_, rfl⟩
               replace H : (runs_Two.l1 k2 y378 (rd_L8 t362 x19_1) t362 (t362.length : Int) x19_1 t370 (t370.length : Int) (wrap64 (x27_2 + 1))) = some (r1, r2) := rh
               have Ny378 := aE hy_
               clear hy_
               have H' := Aside0.mk H
               clear H
               have p373 : 0 ≤ (x27_2 : Int) := dt
               have q373 : x27_2 < (t370.length : Int) := dt
               obtain ⟨ad373, e373, hx373_0, hx373_1, hx373_2, hx373_3, hx373_4⟩ := at_T56 (Kd.R_reads' HO_25.out).2.2 x27_2 p373 q373
               cases e373
               replace p373 := eq_true p373
               replace q373 := eq_true q373
               go_wp2_with (first | ((with_reducible refine gd 9 rfl ?_); refine bx 9 #[.string (⟨#[]⟩ : ByteArray), .int .i64 0, .int .i64 0, .int .i64 0, .int .i64 0] 56 rfl rfl ?_; intro gb374 hg w28 hbox hb; have n_ := aC (Kd.R_below (rU HO_4.out) hb) (aC (Kd.V_below (Kd.V_elderB (by (with_reducible repeat (first | apply Kd.V_alloc | apply Kd.V_drewN | apply Kd.V_drew)); exact HO_7.out) gb374 (Nat.le_of_eq hg.symm)) hb) (aC (Kd.N_below (Kd.N_elderB (by (with_reducible repeat (first | apply Kd.N_alloc | apply Kd.N_drewN | apply Kd.N_drew)); exact HO_17.out) gb374 (Nat.le_of_eq hg.symm)) hb) (aC (Kd.R_below (Kd.R_elderB (rU HO_25.out) gb374 (Nat.le_of_eq hg.symm)) hb) (aC (blk_below (bU BK357.out) hb) (aC (bs hb) (aC hbox (aC (gz hg) (aC (gz hg) (aC (gn hg (bU BK357.out)) (aE (gm hg (bU BK357.out)))))))))))); clear HO_4 HO_7 HO_17 HO_25 BK357 HB; obtain ⟨HO_4, HO_7, HO_17, HO_25, BK357, HB, BK374, GW374, GE374, NB357_374, NB374_357⟩ := n_; clear hb hbox hg; have hnb29 := NB374_357.out; have hnc29 := NB357_374.out; obtain ⟨hcz30_0, hcz30_1, hcz30_2, hcz30_3, hcz30_4, hfz30_0, hfz30_1, hfz30_2, hfz30_3, hfz30_4⟩ := cz5f BK374.out) | (refine gF 26 33 Tryd.func26 #[.agg #[.string ((rd_T56 t370 x27_2).f0), .int .i64 ((rd_T56 t370 x27_2).f1), .int .i64 ((rd_T56 t370 x27_2).f2.f0), .int .i64 ((rd_T56 t370 x27_2).f2.f1), .int .i64 ((rd_T56 t370 x27_2).f3)]] rfl rfl ?_; (with_reducible refine (runs_mode_bits.calls k2 ((rd_T56 t370 x27_2).f0) ((rd_T56 t370 x27_2).f1) ((rd_T56 t370 x27_2).f2.f0) ((rd_T56 t370 x27_2).f2.f1) ((rd_T56 t370 x27_2).f3) t375 _ A26.out).mono ?_); rintro e w31 ⟨v376, rfl, ho0, hb⟩; refine ⟨_, rfl, ?_⟩; have n_ := aC (Kd.R_elder' (rU (Kd.R_mono (Kd.R_far (p := ⟨gb374, 4, none⟩) (Kd.R_far (p := ⟨gb374, 3, none⟩) (Kd.R_far (p := ⟨gb374, 2, none⟩) (Kd.R_far (p := ⟨gb374, 1, none⟩) (Kd.R_far (p := ⟨gb374, 0, none⟩) (Kd.R_types HO_4.out BK374.out (by decide)) (fun _ hk => hk.2) (.string ((rd_T56 t370 x27_2).f0))) (fun _ hk => hk.2) (.int .i64 ((rd_T56 t370 x27_2).f1))) (fun _ hk => hk.2) (.int .i64 ((rd_T56 t370 x27_2).f2.f0))) (fun _ hk => hk.2) (.int .i64 ((rd_T56 t370 x27_2).f2.f1))) (fun _ hk => hk.2) (.int .i64 ((rd_T56 t370 x27_2).f3))) (fun _ h_ => h_.1))) (Kd.U_base ho0) hb) (aC (Kd.V_elder' (by (with_reducible repeat (first | apply Kd.V_alloc | apply Kd.V_drewN | apply Kd.V_drew)); exact (Kd.V_mono (Kd.V_far (p := ⟨gb374, 4, none⟩) (Kd.V_far (p := ⟨gb374, 3, none⟩) (Kd.V_far (p := ⟨gb374, 2, none⟩) (Kd.V_far (p := ⟨gb374, 1, none⟩) (Kd.V_far (p := ⟨gb374, 0, none⟩) (Kd.V_mono HO_7.out (fun k_ hk => (⟨hk, hk.2⟩ : _ ∧ k_ ≠ gb374))) (fun _ hk => hk.2) (.string ((rd_T56 t370 x27_2).f0))) (fun _ hk => hk.2) (.int .i64 ((rd_T56 t370 x27_2).f1))) (fun _ hk => hk.2) (.int .i64 ((rd_T56 t370 x27_2).f2.f0))) (fun _ hk => hk.2) (.int .i64 ((rd_T56 t370 x27_2).f2.f1))) (fun _ hk => hk.2) (.int .i64 ((rd_T56 t370 x27_2).f3))) (fun _ h_ => h_.1))) (Kd.U_base ho0) hb) (aC (Kd.N_elder' (by (with_reducible repeat (first | apply Kd.N_alloc | apply Kd.N_drewN | apply Kd.N_drew)); exact (Kd.N_mono (Kd.N_far (p := ⟨gb374, 4, none⟩) (Kd.N_far (p := ⟨gb374, 3, none⟩) (Kd.N_far (p := ⟨gb374, 2, none⟩) (Kd.N_far (p := ⟨gb374, 1, none⟩) (Kd.N_far (p := ⟨gb374, 0, none⟩) (Kd.N_mono HO_17.out (fun k_ hk => (⟨hk, hk.2⟩ : _ ∧ k_ ≠ gb374))) (fun _ hk => hk.2) (.string ((rd_T56 t370 x27_2).f0))) (fun _ hk => hk.2) (.int .i64 ((rd_T56 t370 x27_2).f1))) (fun _ hk => hk.2) (.int .i64 ((rd_T56 t370 x27_2).f2.f0))) (fun _ hk => hk.2) (.int .i64 ((rd_T56 t370 x27_2).f2.f1))) (fun _ hk => hk.2) (.int .i64 ((rd_T56 t370 x27_2).f3))) (fun _ h_ => h_.1))) (Kd.U_base ho0) hb) (aC (Kd.R_below (rU (Kd.R_mono (Kd.R_far (p := ⟨gb374, 4, none⟩) (Kd.R_far (p := ⟨gb374, 3, none⟩) (Kd.R_far (p := ⟨gb374, 2, none⟩) (Kd.R_far (p := ⟨gb374, 1, none⟩) (Kd.R_far (p := ⟨gb374, 0, none⟩) (Kd.R_mono HO_25.out (fun k_ hk => (⟨hk, hk.2⟩ : _ ∧ k_ ≠ gb374))) (fun _ hk => hk.2) (.string ((rd_T56 t370 x27_2).f0))) (fun _ hk => hk.2) (.int .i64 ((rd_T56 t370 x27_2).f1))) (fun _ hk => hk.2) (.int .i64 ((rd_T56 t370 x27_2).f2.f0))) (fun _ hk => hk.2) (.int .i64 ((rd_T56 t370 x27_2).f2.f1))) (fun _ hk => hk.2) (.int .i64 ((rd_T56 t370 x27_2).f3))) (fun _ h_ => h_.1))) hb) (aC (Kd.U_lower (Kd.U_new' ho0 (Kd.R_lt (rU (Kd.R_mono (Kd.R_far (p := ⟨gb374, 4, none⟩) (Kd.R_far (p := ⟨gb374, 3, none⟩) (Kd.R_far (p := ⟨gb374, 2, none⟩) (Kd.R_far (p := ⟨gb374, 1, none⟩) (Kd.R_far (p := ⟨gb374, 0, none⟩) (Kd.R_types HO_4.out BK374.out (by decide)) (fun _ hk => hk.2) (.string ((rd_T56 t370 x27_2).f0))) (fun _ hk => hk.2) (.int .i64 ((rd_T56 t370 x27_2).f1))) (fun _ hk => hk.2) (.int .i64 ((rd_T56 t370 x27_2).f2.f0))) (fun _ hk => hk.2) (.int .i64 ((rd_T56 t370 x27_2).f2.f1))) (fun _ hk => hk.2) (.int .i64 ((rd_T56 t370 x27_2).f3))) (fun _ h_ => h_.1))))) bz) (aC (blk_below (g := gb357) (o := .cells #[.int .i64 a0_0, .int .i64 a0_1, .slice A0_2 l0_2.length c0_2] 24 (0, 0)) (by (with_reducible repeat (first | refine blk_drewN ?_ _ | refine blk_drew ?_ | refine blk_alloc ?_ _)); refine blk_far ?_ NB357_374.out _; (with_reducible repeat (first | refine blk_drewN ?_ _ | refine blk_drew ?_ | refine blk_alloc ?_ _)); refine blk_far ?_ NB357_374.out _; (with_reducible repeat (first | refine blk_drewN ?_ _ | refine blk_drew ?_ | refine blk_alloc ?_ _)); refine blk_far ?_ NB357_374.out _; (with_reducible repeat (first | refine blk_drewN ?_ _ | refine blk_drew ?_ | refine blk_alloc ?_ _)); refine blk_far ?_ NB357_374.out _; (with_reducible repeat (first | refine blk_drewN ?_ _ | refine blk_drew ?_ | refine blk_alloc ?_ _)); refine blk_far ?_ NB357_374.out _; (with_reducible repeat (first | refine blk_drewN ?_ _ | refine blk_drew ?_ | refine blk_alloc ?_ _)); exact BK357.out) hb) (aC (blk_below (g := gb374) (o := .cells #[.string ((rd_T56 t370 x27_2).f0), .int .i64 ((rd_T56 t370 x27_2).f1), .int .i64 ((rd_T56 t370 x27_2).f2.f0), .int .i64 ((rd_T56 t370 x27_2).f2.f1), .int .i64 ((rd_T56 t370 x27_2).f3)] 56 (0, 0)) (by (with_reducible repeat (first | refine blk_drewN ?_ _ | refine blk_drew ?_ | refine blk_alloc ?_ _)); refine blk_put (cs := #[.string ((rd_T56 t370 x27_2).f0), .int .i64 ((rd_T56 t370 x27_2).f1), .int .i64 ((rd_T56 t370 x27_2).f2.f0), .int .i64 ((rd_T56 t370 x27_2).f2.f1), .int .i64 0]) ?_ 4 _ rfl; (with_reducible repeat (first | refine blk_drewN ?_ _ | refine blk_drew ?_ | refine blk_alloc ?_ _)); refine blk_put (cs := #[.string ((rd_T56 t370 x27_2).f0), .int .i64 ((rd_T56 t370 x27_2).f1), .int .i64 ((rd_T56 t370 x27_2).f2.f0), .int .i64 0, .int .i64 0]) ?_ 3 _ rfl; (with_reducible repeat (first | refine blk_drewN ?_ _ | refine blk_drew ?_ | refine blk_alloc ?_ _)); refine blk_put (cs := #[.string ((rd_T56 t370 x27_2).f0), .int .i64 ((rd_T56 t370 x27_2).f1), .int .i64 0, .int .i64 0, .int .i64 0]) ?_ 2 _ rfl; (with_reducible repeat (first | refine blk_drewN ?_ _ | refine blk_drew ?_ | refine blk_alloc ?_ _)); refine blk_put (cs := #[.string ((rd_T56 t370 x27_2).f0), .int .i64 0, .int .i64 0, .int .i64 0, .int .i64 0]) ?_ 1 _ rfl; (with_reducible repeat (first | refine blk_drewN ?_ _ | refine blk_drew ?_ | refine blk_alloc ?_ _)); refine blk_put (cs := #[.string (⟨#[]⟩ : ByteArray), .int .i64 0, .int .i64 0, .int .i64 0, .int .i64 0]) ?_ 0 _ rfl; (with_reducible repeat (first | refine blk_drewN ?_ _ | refine blk_drew ?_ | refine blk_alloc ?_ _)); exact BK374.out) hb) (aE (bs hb)))))))); clear HO_4 HO_7 HO_17 HO_25 BK357 BK374 HB; obtain ⟨HO_4, HO_7, HO_17, HO_25, HO377, BK357, BK374, HB⟩ := n_; obtain ⟨Ao33, co33, eo33⟩ := Kd.U_slice HO377.out; subst eo33) | ((with_reducible refine gate_builtin (b := .append) (xs := #[.tmp 31, .tmp 33]) rfl ?_); at_builtin; refine Kd.R_append_rows (Kd.int .u8) (w0 := w) w.heap.size rfl (.tmp 31) (.tmp 33) 22 5 (.int .u8 0) 1 rfl Tryd.underlying22 info5 rfl (by decide) (by omega) u4 x4_2 t375 _ _ _ (fun k_ => some k_ ≠ (.slice Ao33 t375.length co33 : Value).ownBlock) (fun _ => False) rfl rfl ?aO ?aR (fun _ _ h => h) (fun _ h => h.elim) ?aF ?aB ?aS ?aL ?_; (case aR => repeat (first | exact (Kd.U_reads' HO377.out).2.2 | (with_reducible refine Kd.C_alloc ?_ _) | (with_reducible refine Kd.C_drewN ?_ _) | (with_reducible refine Kd.C_drew ?_))); (case aB => exact bl); (case aF => exact (fun k_ hk => Kd.fresh' (Kd.U_lt (by (with_reducible repeat (first | apply Kd.U_alloc | apply Kd.U_drewN | apply Kd.U_drew)); exact HO377.out)) k_ hk)); (case aO => exact (rU (Kd.R_mono HO_4.out (fun _ hk => hk.2)))); (case aS => exact bz); (case aL => have := LMc27.out; omega); intro v379 w32 ho hb hg hat; rw [← Ny378.out] at ho; have n_ := aC (Kd.V_afterv (ok := (fun k_ => some k_ ≠ (.slice (some ad369) t362.length co15 : Value).ownBlock ∧ some k_ ≠ (.slice (some ad373) t370.length co22 : Value).ownBlock ∧ some k_ ≠ (.slice Ao33 t375.length co33 : Value).ownBlock ∧ k_ ≠ gb357 ∧ k_ ≠ gb374)) (by (with_reducible repeat (first | apply Kd.V_alloc | apply Kd.V_drewN | apply Kd.V_drew)); exact Kd.V_mono HO_7.out (fun _ hk => ⟨⟨hk.1.1.2.1, ⟨hk.1.1.2.2.1, ⟨hk.2, ⟨hk.1.1.2.2.2, hk.1.2⟩⟩⟩⟩, hk.1.1.1⟩)) hg hat) (aC (Kd.N_afterv (ok := (fun k_ => some k_ ≠ (.slice (some ad373) t370.length co22 : Value).ownBlock ∧ some k_ ≠ (.slice Ao33 t375.length co33 : Value).ownBlock ∧ k_ ≠ gb357 ∧ k_ ≠ gb374)) (by (with_reducible repeat (first | apply Kd.N_alloc | apply Kd.N_drewN | apply Kd.N_drew)); exact Kd.N_mono HO_17.out (fun _ hk => ⟨⟨hk.1.1.2.1, ⟨hk.2, ⟨hk.1.1.2.2, hk.1.2⟩⟩⟩, hk.1.1.1⟩)) hg hat) (aC (Kd.R_over' (rU HO_25.out) (Kd.R_typed (rU HO_4.out)) (by decide) hg) (aC (blk_grown (bU BK357.out) hg (Kd.R_ne HO_4.out BK357.out (by decide))) (aC (blk_grown (g := gb374) (o := .cells #[.string ((rd_T56 t370 x27_2).f0), .int .i64 ((rd_T56 t370 x27_2).f1), .int .i64 ((rd_T56 t370 x27_2).f2.f0), .int .i64 ((rd_T56 t370 x27_2).f2.f1), .int .i64 ((rd_T56 t370 x27_2).f3)] 56 (0, 0)) (bU BK374.out) hg (Kd.R_ne HO_4.out BK374.out (by decide))) (aC (Kd.U_after (ok := (fun _ => True)) (by (with_reducible repeat (first | apply Kd.U_alloc | apply Kd.U_drewN | apply Kd.U_drew)); exact HO377.out) hg hat) (aC hb (aE ho))))))); clear HO_7 HO_17 HO_25 BK357 BK374 HO377 HB HO_4; obtain ⟨HO_7, HO_17, HO_25, BK357, BK374, HO377, HB, HO380⟩ := n_; clear ho hb hg hat))
               go_roundg k2
               case measure => have := HK1.out; have := HK2.out; omega
               case rel => exact ⟨(y378), (wrap64 (x27_2 + 1)), rq, H', ⟨by have := HK1.out; have := HK2.out; omega⟩, ⟨rU (Kd.R_mono HO380.out (fun _ hk => trivial))⟩, ⟨by (with_reducible repeat (first | apply Kd.V_alloc | apply Kd.V_drewN | apply Kd.V_drew)); exact Kd.V_mono HO_7.out (fun _ hk => ⟨hk.2, ⟨hk.1.1, ⟨hk.1.2.1, hk.1.2.2.2.1⟩⟩⟩)⟩, ⟨by (with_reducible repeat (first | apply Kd.N_alloc | apply Kd.N_drewN | apply Kd.N_drew)); exact Kd.N_mono HO_17.out (fun _ hk => ⟨hk.2, ⟨hk.1.1, hk.1.2.2.1⟩⟩)⟩, ⟨rU (Kd.R_mono HO_25.out (fun _ hk => trivial))⟩, ⟨bU BK357.out⟩, ⟨bl⟩⟩
              ·rw [if_neg c27] at H
               exact absurd H (by simp)
             ·rw [if_neg c25] at H
              exact absurd H (by simp)
            ·rw [if_neg c24] at H
             exact absurd H (by simp)
           ·have H' := Aside0.mk H
            clear H
            go_wp2
            go_roundg k2
            case measure => have := HK1.out; have := HK2.out; omega
            case rel => exact ⟨(x4_2), ((rd_L8 t362 x19_1)), (wrap64 (x19_1 + 1)), rq, H', ⟨by have := HK1.out; have := HK2.out; omega⟩, ⟨rU HO_4.out⟩, ⟨by (with_reducible repeat (first | apply Kd.V_alloc | apply Kd.V_drewN | apply Kd.V_drew)); exact Kd.V_mono HO_7.out (fun _ hk => ⟨hk.1, hk.2.2.2⟩)⟩, ⟨by (with_reducible repeat (first | apply Kd.N_alloc | apply Kd.N_drewN | apply Kd.N_drew)); exact Kd.N_mono HO_17.out (fun _ hk => ⟨hk.1, hk.2.2⟩)⟩, ⟨bU BK357.out⟩, ⟨bl⟩⟩
        ·rw [if_neg c18] at H
         exact absurd H (by simp)
       ·rw [if_neg c17] at H
        exact absurd H (by simp)
      ·obtain ⟨⟨t365, t366⟩, A34, H⟩ := oB H
       try dsimp only at H
       simp only [Option.some.injEq, Prod.mk.injEq] at H
       obtain ⟨rfl, rfl⟩ := H
       obtain ⟨Ao35, co35, eo35⟩ := Kd.R_slice HO_4.out
       subst eo35
       go_wp2_with (first | (refine gF 9 39 Tryd.func9 #[.slice Ao35 x4_1.length co35] rfl rfl ?_; (with_reducible refine (bits_Pack.calls k1 _ _ x4_1 t365 t366 _ ?side1 ?side2 A34.out).mono ?_); (case side1 => exact cU (Kd.R_reads' HO_4.out).2.2); (case side2 => exact (Kd.R_reads' HO_4.out).2.1); rintro e w36 ⟨v367, rfl, ho0, hb⟩; refine ⟨_, rfl, ?_⟩; have n_ := aC (Kd.R_elder' (rU HO_4.out) (Kd.R_base ho0) hb) (aC (Kd.V_elder' (by (with_reducible repeat (first | apply Kd.V_alloc | apply Kd.V_drewN | apply Kd.V_drew)); exact HO_5.out) (Kd.R_base ho0) hb) (aC (Kd.N_elder' (by (with_reducible repeat (first | apply Kd.N_alloc | apply Kd.N_drewN | apply Kd.N_drew)); exact HO_17.out) (Kd.R_base ho0) hb) (aC (Kd.R_lower (Kd.R_new' ho0 (Kd.R_lt (rU HO_4.out))) bz) (aC (blk_below (bU BK357.out) hb) (aE (bs hb)))))); clear HO_4 HO_5 HO_17 BK357 HB; obtain ⟨HO_4, HO_5, HO_17, HO368, BK357, HB⟩ := n_))
       go_ret2
       exact ⟨_, re, rU (Kd.R_mono HO368.out (fun _ hk => trivial)), bl⟩
   ·rw [if_neg c5] at H
    exact absurd H (by simp)
  ·rw [if_neg c4] at H
   exact absurd H (by simp)
 ·replace c3 := Bool.eq_false_iff.mpr c3
  subst c3
  rw [if_neg Bool.false_ne_true] at H
  simp only [Option.some.injEq, Prod.mk.injEq] at H
  obtain ⟨rfl, rfl⟩ := H
  go_enter Tryd.func11, Tryd.ntmps11
  go_wp2_with (first | ((with_reducible refine gd 1 rfl ?_); refine bx 1 #[.int .i64 a0_0, .int .i64 a0_1, .slice A0_2 l0_2.length c0_2] 24 rfl rfl ?_; intro gb357 hg w37 hbox hb; have n_ := aC (bs hb) (aC hbox (aC (gz hg) (aE (gz hg)))); clear HB; obtain ⟨HB, BK357, GW357, GE357⟩ := n_; clear hb hbox hg; obtain ⟨hcz38_0, hcz38_1, hcz38_2, hfz38_0, hfz38_1, hfz38_2⟩ := cz3f BK357.out) | (refine gF 23 11 Tryd.func23 #[.agg #[.int .i64 a0_0, .int .i64 a0_1, .slice A0_2 l0_2.length c0_2]] rfl rfl ?_; (with_reducible refine (bitmap_Valid.calls k a0_0 a0_1 _ _ l0_2 false _ ?side1 ?side2 A2.out).mono ?_); (case side1 => exact cU (Kd.C_below HR0_2.out HB.out)); (case side2 => exact HC0_2.out); rintro e w39 ⟨rfl, hb⟩; refine ⟨_, rfl, ?_⟩; have n_ := aC (blk_below (bU BK357.out) hb) (aE (bs hb)); clear BK357 HB; obtain ⟨BK357, HB⟩ := n_))
  go_ret2
  exact ⟨_, re, by first | exact Kd.R_nil _ _ _ _ _ | exact Kd.N_nil _ _ _ _ _ | exact Kd.V_nil _ _ _ _ _ | exact Kd.Q_nil _ _ _ _ _ | exact Kd.S_nil _ _ _ _ _, bl⟩
def bitmap_isShift.f (a0 : Int) (a1 : Int) : Option (Bool) := if (mn a0 a1) ≥ (-100000) then (some (decide ((mx a0 a1) ≤ 100000))) else (some false)
set_option maxHeartbeats 8000000 in
set_option maxRecDepth 100000 in
theorem bitmap_isShift.calls (a0 : Int) (a1 : Int) (r : Bool) (w : World) (h : bitmap_isShift.f a0 a1 = some r) :
  Calls Tryd.prog 27 #[.int .i64 a0, .int .i64 a1] w fun e w' => e = .returned (.bool r) ∧ Below w.heap.size w w' := by
 have HB := Aside0.mk (Below.refl w.heap.size w)
 have H : (if (mn a0 a1) ≥ (-100000) then (some (decide ((mx a0 a1) ≤ 100000))) else (some false)) = some r := h
 clear h
 obtain ⟨ji3, hji3⟩ : ∃ j_ : Int, (mn a0 a1) = j_ := ⟨_, rfl⟩
 replace H : (if (ji3) ≥ (-100000) then (some (decide ((mx a0 a1) ≤ 100000))) else (some false)) = some r := by first | (rw [hji3] at H; exact H) | (simp only [hji3] at H ⊢; exact H)
 have hji3_ : (if a1 < a0 then a1 else a0) = ji3 := hji3
 rcases iL H with H1 | H1 <;> clear H <;> obtain ⟨H, c4b0⟩ := H1
 ·obtain ⟨ji5, hji5⟩ : ∃ j_ : Int, (mx a0 a1) = j_ := ⟨_, rfl⟩
  replace H : (some (decide ((ji5) ≤ 100000))) = some r := by first | (rw [hji5] at H; exact H) | (simp only [hji5] at H ⊢; exact H)
  have hji5_ : (if a0 < a1 then a1 else a0) = ji5 := hji5
  obtain rfl := Option.some.inj H
  go_enter Tryd.func27, Tryd.ntmps27
  go_wp2
  go_ret
  exact ⟨by first | rfl | (simp [errW_none, errW_some] <;> rfl) | (simp only [← hji3, ← hji5]; first | rfl | (simp [errW_none, errW_some] <;> rfl)) | (simp [*, errW_none, errW_some] <;> rfl), bl⟩
 ·obtain rfl := Option.some.inj H
  go_enter Tryd.func27, Tryd.ntmps27
  go_wp2
  go_ret
  exact ⟨by first | rfl | (simp [errW_none, errW_some] <;> rfl) | (simp only [← hji3]; first | rfl | (simp [errW_none, errW_some] <;> rfl)) | (simp [*, errW_none, errW_some] <;> rfl), bl⟩
end Go.Proofs.YtidgpjcgoocpeaaDoor.PTopRuns
