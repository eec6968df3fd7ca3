-- printed (wip/tools/myprint.py)
import Derived.Test.YtknclbodinfbeaaDoorPRunsSamex0
import Derived.Test.YtknclbodinfbeaaDoorPRunsSamex4
import Derived.Test.YtknclbodinfbeaaDoorPRunsSamex5
import Derived.Test.YtknclbodinfbeaaDoorPRunsSamex7
import Derived.Test.YtknclbodinfbeaaDoorPRunsSamex8
namespace Go.Proofs.YtknclbodinfbeaaDoor.PRunsSame
open Go.RowKit Go.Proofs.YtknclbodinfbeaaDoorW.PrintWords Go.Proofs.YtknclbodinfbeaaDoorW.PrintLast Go.Proofs.YtknclbodinfbeaaDoorW.PrintMore
attribute [local go_sem] yf yc yD yE xV xU ye yh
set_option linter.unusedVariables false
set_option linter.unusedSimpArgs false
def we.f (k : Nat) (a0_0 : ByteArray) (a0_1 : Int) (a0_2 : Int) (a0_3 : Int) (a0_4 : Int) : Option (List Int) := if a0_0.toList = ([112, 97, 115, 115] : List UInt8) then ((xo.f k (⟨#[48, 48, 48, 49]⟩ : ByteArray)).bind fun t299 => (some t299)) else (if a0_0.toList = ([117, 112] : List UInt8) then ((yQ.f).bind fun t302 => (if 0 ≤ (wrap64 (a0_1 + 3)) then (if (wrap64 (a0_1 + 3)) < (t302.length : Int) then ((xo.f k (jD ByteArray.empty t302 (wrap64 (a0_1 + 3)))).bind fun t306 => (some t306)) else (none)) else (none))) else ((xo.f k (⟨#[48, 48, 49]⟩ : ByteArray)).bind fun t309 => ((wZ.f k a0_2 a0_4).bind fun t312 => (if t309.length + t312.length < 140737488355328 then ((some (t309 ++ t312 : List Int)).bind fun y315 => ((wZ.f k a0_3 (wrap64 (1 - a0_4))).bind fun t318 => (if y315.length + t318.length < 140737488355328 then (some (y315 ++ t318)) else (none)))) else (none)))))
theorem we.mono : ∀ a0 a1 a2 a3 a4 k, vP (we.f k a0 a1 a2 a3 a4) (we.f (k + 1) a0 a1 a2 a3 a4) := by
 intro a0 a1 a2 a3 a4 k
 unfold we.f
 repeat' first
   | (with_reducible exact xo.mono _ _)
   | (with_reducible exact wZ.mono _ _ _)
   | (with_reducible first | exact vP.refl _ | exact vP.none _ | apply vP.ite | refine vP.bind ?_ fun _ => ?_)
def we.T5 : Bool × List (List Nat × List Nat) := (true, [([], []), ([], []), ([1], [1]), ([2], [2]), ([0, 3], [0, 3]), ([4], [4]), ([5, 0], [5]), ([6, 6, 0, 1, 2, 3, 4, 5, 6], [6])])
def we.B5 : List Nat := [0, 0, 2, 6, 15, 31, 63, 127]
theorem we.tab5 : yN .any (opsOf Tryd.f50 5) = we.T5 := by kernel_rfl
theorem we.j8 : yi we.T5.2 we.B5 = true := by kernel_rfl
def we.T6 : Bool × List (List Nat × List Nat) := (true, [([], []), ([], []), ([1], [1]), ([2], [2]), ([], []), ([4], [4]), ([3, 5, 0], [3, 5]), ([0, 6, 6], [0, 6]), ([], []), ([8], [8]), ([9], [9]), ([], []), ([11], [11]), ([12], [12]), ([10, 13, 7], [10, 13]), ([7, 14, 14], [7, 14]), ([15, 15, 0, 1, 2, 3, 4, 5, 6, 7, 8, 9, 10, 11, 12, 13, 14, 15], [15])])
def we.B6 : List Nat := [0, 0, 2, 6, 0, 16, 63, 127, 0, 256, 768, 0, 2048, 6144, 16383, 32767, 65535]
theorem we.tab6 : yN .any (opsOf Tryd.f50 6) = we.T6 := by kernel_rfl
theorem we.qr : yi we.T6.2 we.B6 = true := by kernel_rfl
set_option maxHeartbeats 8000000 in
set_option maxRecDepth 100000 in
theorem we.calls (k : Nat) (a0_0 : ByteArray) (a0_1 : Int) (a0_2 : Int) (a0_3 : Int) (a0_4 : Int) (r : List Int) (w : World) (h : we.f k a0_0 a0_1 a0_2 a0_3 a0_4 = some r) :
  Calls Tryd.prog 50 #[.agg #[.string a0_0, .int .i64 a0_1, .int .i64 a0_2, .int .i64 a0_3, .int .i64 a0_4]] w fun e w' => ∃ v0_ : Value, e = .returned (v0_) ∧ Kd.U (Kd.int .u8) 5 w' w.heap.size (fun _ => True) v0_ r ∧ Below w.heap.size w w' := by
 have hu69 := Tryd.underlying69
 have HB := Aside0.mk (Below.refl w.heap.size w)
 have H := h
 unfold we.f at H
 clear h
 rcases iE H with H1 | H1 <;> clear H <;> obtain ⟨H, c2b0, c2b1, c2⟩ := H1
 ·obtain ⟨t299, A3, H⟩ := oB H
  try dsimp only at H
  obtain rfl := Option.some.inj H
  go_enter Tryd.func50, Tryd.ntmps50
  go_wp2_with (first | ((with_reducible refine gd 1 rfl ?_); refine bx 1 #[.string a0_0, .int .i64 a0_1, .int .i64 a0_2, .int .i64 a0_3, .int .i64 a0_4] 69 rfl rfl ?_; intro gb298 hg w4 hbox hb; have n_ := aC (bs hb) (aC hbox (aC (gz hg) (aE (gz hg)))); clear HB; obtain ⟨HB, BK298, GW298, GE298⟩ := n_; clear hb hbox hg; obtain ⟨hcz5_0, hcz5_1, hcz5_2, hcz5_3, hcz5_4, hfz5_0, hfz5_1, hfz5_2, hfz5_3, hfz5_4⟩ := ya BK298.out) | (refine gF 76 7 Tryd.func76 #[.string (⟨#[48, 48, 48, 49]⟩ : ByteArray)] rfl rfl ?_; (with_reducible refine (xo.calls k (⟨#[48, 48, 48, 49]⟩ : ByteArray) t299 _ A3.out).mono ?_); rintro e w6 ⟨v300, rfl, ho0, hb⟩; refine ⟨_, rfl, ?_⟩; have n_ := aC (Kd.j4 ho0 bz) (aC (vu (bU BK298.out) hb) (aE (bs hb))); clear BK298 HB; obtain ⟨HO301, BK298, HB⟩ := n_))
  go_ret
  exact ⟨_, re, by (with_reducible repeat (first | apply Kd.zl | apply Kd.zj | apply Kd.zG)); exact HO301.out, bl⟩
 ·rcases iE H with H1 | H1 <;> clear H <;> obtain ⟨H, c7b0, c7b1, c7⟩ := H1
  ·obtain ⟨t302, A8, H⟩ := oB H
   try dsimp only at H
   obtain ⟨ji9, hji9⟩ : ∃ j_ : Int, (wrap64 (a0_1 + 3)) = j_ := ⟨_, rfl⟩
   replace H : (if 0 ≤ (ji9) then (if (ji9) < (t302.length : Int) then ((xo.f k (jD ByteArray.empty t302 (ji9))).bind fun t306 => (some t306)) else (none)) else (none)) = some r := by first | (rw [hji9] at H; exact H) | (simp only [hji9] at H ⊢; exact H)
   (try rw [hji9] at A8)
   have hji9w : (IntKind.i64.wrap (a0_1 + 3)) = ji9 := (xD _).trans hji9
   by_cases c10 : 0 ≤ (ji9)
   ·rw [if_pos c10] at H
    have c10b0 := decide_eq_true c10
    clear c10
    by_cases c11 : (ji9) < (t302.length : Int)
    ·rw [if_pos c11] at H
     have c11b0 := decide_eq_true c11
     clear c11
     obtain ⟨t306, A12, H⟩ := oB H
     try dsimp only at H
     obtain rfl := Option.some.inj H
     go_enter Tryd.func50, Tryd.ntmps50
     try go_wp2_with (first | ((with_reducible refine gd 1 rfl ?_); refine bx 1 #[.string a0_0, .int .i64 a0_1, .int .i64 a0_2, .int .i64 a0_3, .int .i64 a0_4] 69 rfl rfl ?_; intro gb298 hg w13 hbox hb; have n_ := aC (bs hb) (aC hbox (aC (gz hg) (aE (gz hg)))); clear HB; obtain ⟨HB, BK298, GW298, GE298⟩ := n_; clear hb hbox hg; obtain ⟨hcz14_0, hcz14_1, hcz14_2, hcz14_3, hcz14_4, hfz14_0, hfz14_1, hfz14_2, hfz14_3, hfz14_4⟩ := ya BK298.out))
     have n_ := aC (vn BK298.out) (aE (vG HB.out))
     clear BK298 HB
     obtain ⟨BK298, HB⟩ := n_
     refine st 8 (fun w' => w'.cell? ⟨gb298, 0, none⟩ = some (.string a0_0) ∧ w'.cell? ⟨gb298, 1, none⟩ = some (.int .i64 a0_1) ∧ w'.cell? ⟨gb298, 2, none⟩ = some (.int .i64 a0_2) ∧ w'.cell? ⟨gb298, 3, none⟩ = some (.int .i64 a0_3) ∧ w'.cell? ⟨gb298, 4, none⟩ = some (.int .i64 a0_4)) [] (bv 8 0) we.tab5 we.j8 ⟨jq BK298.out, jk BK298.out, jC BK298.out, jZ BK298.out, kc4 BK298.out⟩ (fun hHeld HT_ HW_ => ?_)
     generalize w13.drew = w15 at BK298 HB hHeld ⊢
     refine pu 1 11 (bv 8 2) HT_ rfl rfl ?_
     refine tk 2 12 (bv 8 6) HT_ HW_ hHeld rfl rfl (by rintro w' ⟨s0, s1, s2, s3, s4⟩; exact yl) ?_
     refine pu 3 13 (bv 8 14) HT_ rfl rfl ?_
     refine yz (i := 0) (N := some 10) (bv 8 15) rfl rfl (xq HT_.out (by kernel_rfl)) (by decide) (fun K hK => ?_)
     refine gK Tryd.func77 rfl #[] rfl rfl ?_
     with_reducible refine (yQ.calls  t302 _ A8.out).mono ?_
     rintro e w16 ⟨v303, rfl, ho0, hb⟩
     refine ⟨_, rfl, ?_⟩
     have n_ := aC (Kd.vX ho0 bz) (aC (vu (bU BK298.out) hb) (aE (bs hb)))
     clear BK298 HB
     obtain ⟨HO304, BK298, HB⟩ := n_
     (try clear hb)
     (try clear hb2)
     (try clear hk)
     (try clear hi)
     (try clear ho0)
     obtain ⟨Ao17, co17, eo17⟩ := Kd.wq HO304.out
     (first | subst eo17 | (injection eo17 with f1_ f2_ f3_; have f4_ := f1_.symm; have f5_ := f3_.symm; clear f1_ f2_ f3_; subst f4_; subst f5_))
     have p305 : 0 ≤ ((ji9) : Int) := dt
     have q305 : (ji9) < (t302.length : Int) := dt
     obtain ⟨ad305, e305, hx305_0⟩ := Kd.zF (Kd.R_reads' HO304.out).2.2 (ji9) p305 q305
     cases e305
     replace p305 := eq_true p305
     replace q305 := eq_true q305
     refine hK.out _ _ ⟨jq BK298.out, jk BK298.out, jC BK298.out, jZ BK298.out, kc4 BK298.out⟩ (fun hHeld => ?_)
     clear hK K
     refine nm (some 10) ?_
     refine pu 4 14 (bv 8 31) HT_ rfl rfl ?_
     refine ld 5 15 #[true, true, true, true, true, true, false, false] HT_ rfl rfl hHeld (by go_simp; with_reducible rfl) ?_
     refine yz (i := 6) (N := some 16) (bv 8 127) rfl rfl (xq HT_.out (by kernel_rfl)) (by decide) (fun K hK => ?_)
     refine goes_ Tryd.func76 (by kernel_rfl) rfl #[.string (jD ByteArray.empty t302 (ji9))] (by rfl) rfl rfl (by (try simp only [List.map_toArray, List.map_cons, List.map_nil]); first | done | (simp only [hji9]; rfl) | rfl | (simp only [List.length_drop, List.length_take]; rfl)) ?_
     with_reducible refine (xo.calls k (jD ByteArray.empty t302 (ji9)) t306 _ A12.out).mono ?_
     rintro e w18 ⟨v307, rfl, ho0, hb⟩
     refine ⟨_, rfl, ?_⟩
     have n_ := aC (Kd.vT (rU HO304.out) hb) (aC (Kd.j4 ho0 bz) (aC (vu (bU BK298.out) hb) (aE (bs hb))))
     clear HO304 BK298 HB
     obtain ⟨HO304, HO308, BK298, HB⟩ := n_
     (try clear hb)
     (try clear hb2)
     (try clear hk)
     (try clear hi)
     (try clear ho0)
     refine hK.out _ _ ⟨jq BK298.out, jk BK298.out, jC BK298.out, jZ BK298.out, kc4 BK298.out⟩ (fun hHeld => ?_)
     clear hK K
     refine nm (some 16) ?_
     refine pu 7 2 (bv 8 255) HT_ rfl rfl ?_
     refine yO (xS HT_.out (by kernel_rfl)) ?_
     try go_wp2
     go_ret
     exact ⟨_, by first | rfl | (simp [wL, wK] <;> rfl) | (simp only [← hji9]; first | rfl | (simp [wL, wK] <;> rfl)) | (simp [*, wL, wK] <;> rfl), by (with_reducible repeat (first | apply Kd.zl | apply Kd.zj | apply Kd.zG)); exact HO308.out, bl⟩
    ·rw [if_neg c11] at H
     exact absurd H (by simp)
   ·rw [if_neg c10] at H
    exact absurd H (by simp)
  ·obtain ⟨t309, A19, H⟩ := oB H
   try dsimp only at H
   obtain ⟨t312, A20, H⟩ := oB H
   try dsimp only at H
   by_cases c21 : t309.length + t312.length < 140737488355328
   ·rw [if_pos c21] at H
    have LMc21 := Aside0.mk c21
    clear c21
    obtain ⟨y315, hy_⟩ : ∃ y_ : List Int, y_ = (t309 ++ t312) := ⟨_, rfl⟩
    replace H : ((wZ.f k a0_3 (wrap64 (1 - a0_4))).bind fun t318 => (if y315.length + t318.length < 140737488355328 then (some (y315 ++ t318)) else (none))) = some r := rh
    have Ny315 := aE hy_
    clear hy_
    obtain ⟨t318, A22, H⟩ := oB H
    try dsimp only at H
    by_cases c23 : y315.length + t318.length < 140737488355328
    ·rw [if_pos c23] at H
     have LMc23 := Aside0.mk c23
     clear c23
     obtain ⟨y321, hy_⟩ : ∃ y_ : List Int, y_ = (y315 ++ t318) := ⟨_, rfl⟩
     replace H : (some y321) = some r := rh
     have Ny321 := aE hy_
     clear hy_
     obtain rfl := Option.some.inj H
     go_enter Tryd.func50, Tryd.ntmps50
     try go_wp2_with (first | ((with_reducible refine gd 1 rfl ?_); refine bx 1 #[.string a0_0, .int .i64 a0_1, .int .i64 a0_2, .int .i64 a0_3, .int .i64 a0_4] 69 rfl rfl ?_; intro gb298 hg w24 hbox hb; have n_ := aC (bs hb) (aC hbox (aC (gz hg) (aE (gz hg)))); clear HB; obtain ⟨HB, BK298, GW298, GE298⟩ := n_; clear hb hbox hg; obtain ⟨hcz25_0, hcz25_1, hcz25_2, hcz25_3, hcz25_4, hfz25_0, hfz25_1, hfz25_2, hfz25_3, hfz25_4⟩ := ya BK298.out))
     have n_ := aC (vn BK298.out) (aE (vG HB.out))
     clear BK298 HB
     obtain ⟨BK298, HB⟩ := n_
     refine st 17 (fun w' => w'.cell? ⟨gb298, 0, none⟩ = some (.string a0_0) ∧ w'.cell? ⟨gb298, 1, none⟩ = some (.int .i64 a0_1) ∧ w'.cell? ⟨gb298, 2, none⟩ = some (.int .i64 a0_2) ∧ w'.cell? ⟨gb298, 3, none⟩ = some (.int .i64 a0_3) ∧ w'.cell? ⟨gb298, 4, none⟩ = some (.int .i64 a0_4)) [] (bv 17 0) we.tab6 we.qr ⟨jq BK298.out, jk BK298.out, jC BK298.out, jZ BK298.out, kc4 BK298.out⟩ (fun hHeld HT_ HW_ => ?_)
     generalize w24.drew = w26 at BK298 HB hHeld ⊢
     refine pu 1 18 (bv 17 2) HT_ rfl rfl ?_
     refine pu 2 19 (bv 17 6) HT_ rfl rfl ?_
     refine pu 4 21 (bv 17 22) HT_ rfl rfl ?_
     refine pu 8 25 (bv 17 278) HT_ rfl rfl ?_
     refine pu 9 26 (bv 17 790) HT_ rfl rfl ?_
     refine pu 11 28 (bv 17 2838) HT_ rfl rfl ?_
     refine tk 3 20 (bv 17 2846) HT_ HW_ hHeld rfl rfl (by rintro w' ⟨s0, s1, s2, s3, s4⟩; exact yl) ?_
     refine tk 5 22 (bv 17 2878) HT_ HW_ hHeld rfl rfl (by rintro w' ⟨s0, s1, s2, s3, s4⟩; exact yl) ?_
     refine tk 10 27 (bv 17 3902) HT_ HW_ hHeld rfl rfl (by rintro w' ⟨s0, s1, s2, s3, s4⟩; exact yl) ?_
     refine tk 12 29 (bv 17 7998) HT_ HW_ hHeld rfl rfl (by rintro w' ⟨s0, s1, s2, s3, s4⟩; exact yl) ?_
     refine pu 13 30 (bv 17 16190) HT_ rfl rfl ?_
     refine yz (i := 0) (N := some 17) (bv 17 16191) rfl rfl (xq HT_.out (by kernel_rfl)) (by decide) (fun K hK => ?_)
     refine gK Tryd.func76 rfl #[.string (⟨#[48, 48, 49]⟩ : ByteArray)] rfl rfl ?_
     with_reducible refine (xo.calls k (⟨#[48, 48, 49]⟩ : ByteArray) t309 _ A19.out).mono ?_
     rintro e w27 ⟨v310, rfl, ho0, hb⟩
     refine ⟨_, rfl, ?_⟩
     have n_ := aC (Kd.j4 ho0 bz) (aC (vu (bU BK298.out) hb) (aE (bs hb)))
     clear BK298 HB
     obtain ⟨HO311, BK298, HB⟩ := n_
     (try clear hb)
     (try clear hb2)
     (try clear hk)
     (try clear hi)
     (try clear ho0)
     refine hK.out _ _ ⟨jq BK298.out, jk BK298.out, jC BK298.out, jZ BK298.out, kc4 BK298.out⟩ (fun hHeld => ?_)
     clear hK K
     refine nm (some 17) ?_
     refine yz (i := 6) (N := some 23) (bv 17 16255) rfl rfl (xq HT_.out (by kernel_rfl)) (by decide) (fun K hK => ?_)
     refine gK Tryd.func36 rfl #[.int .i64 a0_2, .int .i64 a0_4] rfl rfl ?_
     with_reducible refine (wZ.calls k a0_2 a0_4 t312 _ A20.out).mono ?_
     rintro e w28 ⟨v313, rfl, ho0, hb⟩
     refine ⟨_, rfl, ?_⟩
     have n_ := aC (Kd.U_elder' (by (with_reducible repeat (first | apply Kd.zl | apply Kd.zj | apply Kd.zG)); exact HO311.out) (Kd.xi ho0) hb) (aC (Kd.vX (Kd.R_new' ho0 (Kd.U_lt (by (with_reducible repeat (first | apply Kd.zl | apply Kd.zj | apply Kd.zG)); exact HO311.out))) bz) (aC (vu (bU BK298.out) hb) (aE (bs hb))))
     clear HO311 BK298 HB
     obtain ⟨HO311, HO314, BK298, HB⟩ := n_
     (try clear hb)
     (try clear hb2)
     (try clear hk)
     (try clear hi)
     (try clear ho0)
     obtain ⟨Ao30, co30, eo30⟩ := Kd.wq HO314.out
     (first | subst eo30 | (injection eo30 with f1_ f2_ f3_; have f4_ := f1_.symm; have f5_ := f3_.symm; clear f1_ f2_ f3_; subst f4_; subst f5_))
     refine hK.out _ _ ⟨jq BK298.out, jk BK298.out, jC BK298.out, jZ BK298.out, kc4 BK298.out⟩ (fun hHeld => ?_)
     clear hK K
     refine nm (some 23) ?_
     refine yz (i := 7) (N := some 24) (bv 17 16383) rfl rfl (xq HT_.out (by kernel_rfl)) (by decide) (fun K hK => ?_)
     refine Kd.je (Kd.int .u8) (w0 := w) w.heap.size (by rfl) (.tmp 17) (.tmp 23) 22 5 (.int .u8 0) 1 rfl Tryd.underlying22 info5 rfl (by decide) (by omega) v310 t309 t312 _ _ _ (fun k_ => some k_ ≠ (.slice Ao30 t312.length co30 : Value).ownBlock) (fun _ => False) rfl rfl ?aO ?aR (fun _ _ h => h) (fun _ h => h.elim) ?aF ?aB ?aS ?aL rfl ?_
     (case aR => repeat (first | exact (Kd.R_reads' HO314.out).2.2 | (with_reducible refine Kd.yk ?_ _) | (with_reducible refine Kd.yj ?_ _) | (with_reducible refine Kd.yI ?_)))
     (case aB => exact bl)
     (case aF => exact (fun k_ hk => Kd.fresh' (Kd.xX (rU HO314.out)) k_ hk))
     (case aO => exact (by (with_reducible repeat (first | apply Kd.zl | apply Kd.zj | apply Kd.zG)); exact Kd.U_mono HO311.out (fun _ hk => hk.2)))
     (case aS => exact bz)
     (case aL => have := LMc21.out; omega)
     intro v316 w29 ho hb hg hat
     rw [← Ny315.out] at ho
     have n_ := aC (xx (bU BK298.out) hg (Kd.U_ne HO311.out BK298.out (by decide))) (aC (Kd.yU (ok := (fun _ => True)) (rU HO314.out) hg hat) (aC hb (aE ho)))
     clear BK298 HO314 HB HO311
     obtain ⟨BK298, HO314, HB, HO317⟩ := n_
     clear ho hb hg hat
     refine hK.out _ _ ⟨jq BK298.out, jk BK298.out, jC BK298.out, jZ BK298.out, kc4 BK298.out⟩ (fun hHeld => ?_)
     clear hK K
     refine nm (some 24) ?_
     refine yz (i := 14) (N := some 31) (bv 17 32767) rfl rfl (xq HT_.out (by kernel_rfl)) (by decide) (fun K hK => ?_)
     refine gK Tryd.func36 rfl #[.int .i64 a0_3, .int .i64 (wrap64 (1 - a0_4))] rfl rfl ?_
     with_reducible refine (wZ.calls k a0_3 (wrap64 (1 - a0_4)) t318 _ A22.out).mono ?_
     rintro e w31 ⟨v319, rfl, ho0, hb⟩
     refine ⟨_, rfl, ?_⟩
     have n_ := aC (Kd.R_elder' (rU HO314.out) (Kd.xi ho0) hb) (aC (Kd.U_elder' (by (with_reducible repeat (first | apply Kd.zl | apply Kd.zj | apply Kd.zG)); exact HO317.out) (Kd.xi ho0) hb) (aC (Kd.vX (Kd.R_new' (Kd.R_new' ho0 (Kd.xX (rU HO314.out))) (Kd.U_lt (by (with_reducible repeat (first | apply Kd.zl | apply Kd.zj | apply Kd.zG)); exact HO317.out))) bz) (aC (vu (bU BK298.out) hb) (aE (bs hb)))))
     clear HO314 HO317 BK298 HB
     obtain ⟨HO314, HO317, HO320, BK298, HB⟩ := n_
     (try clear hb)
     (try clear hb2)
     (try clear hk)
     (try clear hi)
     (try clear ho0)
     obtain ⟨Ao33, co33, eo33⟩ := Kd.wq HO320.out
     (first | subst eo33 | (injection eo33 with f1_ f2_ f3_; have f4_ := f1_.symm; have f5_ := f3_.symm; clear f1_ f2_ f3_; subst f4_; subst f5_))
     refine hK.out _ _ ⟨jq BK298.out, jk BK298.out, jC BK298.out, jZ BK298.out, kc4 BK298.out⟩ (fun hHeld => ?_)
     clear hK K
     refine nm (some 31) ?_
     refine yz (i := 15) (N := some 32) (bv 17 65535) rfl rfl (xq HT_.out (by kernel_rfl)) (by decide) (fun K hK => ?_)
     refine Kd.je (Kd.int .u8) (w0 := w) w.heap.size (by rfl) (.tmp 24) (.tmp 31) 22 5 (.int .u8 0) 1 rfl Tryd.underlying22 info5 rfl (by decide) (by omega) v316 y315 t318 _ _ _ (fun k_ => some k_ ≠ (.slice Ao30 t312.length co30 : Value).ownBlock ∧ some k_ ≠ (.slice Ao33 t318.length co33 : Value).ownBlock) (fun _ => False) rfl rfl ?aO ?aR (fun _ _ h => h) (fun _ h => h.elim) ?aF ?aB ?aS ?aL rfl ?_
     (case aR => repeat (first | exact (Kd.R_reads' HO320.out).2.2 | (with_reducible refine Kd.yk ?_ _) | (with_reducible refine Kd.yj ?_ _) | (with_reducible refine Kd.yI ?_)))
     (case aB => exact bl)
     (case aF => exact (fun k_ hk => ⟨Kd.fresh' (Kd.xX (rU HO314.out)) k_ hk, Kd.fresh' (Kd.xX (rU HO320.out)) k_ hk⟩))
     (case aO => exact (by (with_reducible repeat (first | apply Kd.zl | apply Kd.zj | apply Kd.zG)); exact HO317.out))
     (case aS => exact bz)
     (case aL => have := LMc23.out; omega)
     intro v322 w32 ho hb hg hat
     rw [← Ny321.out] at ho
     have n_ := aC (xx (bU BK298.out) hg (Kd.U_ne HO317.out BK298.out (by decide))) (aC (Kd.yU (ok := (fun k_ => some k_ ≠ (.slice Ao33 t318.length co33 : Value).ownBlock)) (rU (Kd.vY HO314.out (fun _ hk => ⟨hk.2, hk.1.2⟩))) hg hat) (aC (Kd.yU (ok := (fun k_ => some k_ ≠ (.slice Ao30 t312.length co30 : Value).ownBlock)) (rU (Kd.vY HO320.out (fun _ hk => ⟨hk.1.2, hk.2⟩))) hg hat) (aC hb (aE ho))))
     clear BK298 HO314 HO320 HB HO317
     obtain ⟨BK298, HO314, HO320, HB, HO323⟩ := n_
     clear ho hb hg hat
     refine hK.out _ _ ⟨jq BK298.out, jk BK298.out, jC BK298.out, jZ BK298.out, kc4 BK298.out⟩ (fun hHeld => ?_)
     clear hK K
     refine nm (some 32) ?_
     refine pu 16 2 (bv 17 131071) HT_ rfl rfl ?_
     refine yO (xS HT_.out (by kernel_rfl)) ?_
     try go_wp2
     go_ret
     exact ⟨_, re, by (with_reducible repeat (first | apply Kd.zl | apply Kd.zj | apply Kd.zG)); exact Kd.U_mono HO323.out (fun _ hk => trivial), bl⟩
    ·rw [if_neg c23] at H
     exact absurd H (by simp)
   ·rw [if_neg c21] at H
    exact absurd H (by simp)
mutual
def xd.l0 : Nat → List Int → List Int → List (List Int) → Int → Int → Option (List Int × Int)
 | 0, _, _, _, _, _ => none
 | k + 1, x4, x5, x17, x18, x19 => if x19 < x18 then (if 0 ≤ x19 then (if x19 < (x17.length : Int) then ((vB.f k x5 (yS x17 x19)).bind fun t337 => (xd.l1 k x4 (yS x17 x19) x17 x18 x19 t337 (t337.length : Int) 0)) else (none)) else (none)) else ((wV.f k x4).bind fun bt332 => (some (bt332.1, bt332.2)))
def xd.l1 : Nat → List Int → List Int → List (List Int) → Int → Int → List (yP) → Int → Int → Option (List Int × Int)
 | 0, _, _, _, _, _, _, _, _ => none
 | k + 1, x4, x7, x17, x18, x19, x25, x26, x27 => if x27 < x26 then (if 0 ≤ x27 then (if x27 < (x25.length : Int) then ((we.f k ((vS x25 x27).f0) ((vS x25 x27).f1) ((vS x25 x27).f2.f0) ((vS x25 x27).f2.f1) ((vS x25 x27).f3)).bind fun t342 => (if x4.length + t342.length < 140737488355328 then (xd.l1 k (x4 ++ t342) x7 x17 x18 x19 x25 x26 (wrap64 (x27 + 1))) else (none))) else (none)) else (none)) else (xd.l0 k x4 x7 x17 x18 (wrap64 (x19 + 1)))
end
def xd.f (k : Nat) (a0_0 : Int) (a0_1 : Int) (l0_2 : List Int) : Option (List Int × Int) := (wu.f k a0_0 a0_1 l0_2).bind fun t325 => (if t325 = true then (if 0 ≤ a0_0 then (if (a0_0 : Int).toNat ≤ 281474976710656 then ((xe.f k a0_0 a0_1 l0_2).bind fun t329 => (xd.l0 k ([] : List Int) (List.replicate (a0_0 : Int).toNat 0) t329 (t329.length : Int) 0)) else (none)) else (none)) else (some (([] : List Int), 30)))
theorem xd.wj : ∀ k, (∀ y0 y1 y2 y3 y4, vP (xd.l0 k y0 y1 y2 y3 y4) (xd.l0 (k + 1) y0 y1 y2 y3 y4)) ∧ (∀ y0 y1 y2 y3 y4 y5 y6 y7, vP (xd.l1 k y0 y1 y2 y3 y4 y5 y6 y7) (xd.l1 (k + 1) y0 y1 y2 y3 y4 y5 y6 y7))
 | 0 => ⟨fun _ _ _ _ _ r h => by simp [xd.l0] at h, fun _ _ _ _ _ _ _ _ r h => by simp [xd.l1] at h⟩
 | k + 1 => by
  obtain ⟨ih0, ih1⟩ := xd.wj k
  refine ⟨?_, ?_⟩
  ·intro y0 y1 y2 y3 y4
   unfold xd.l0
   repeat' first
   | (with_reducible exact ih0 _ _ _ _ _)
   | (with_reducible exact ih1 _ _ _ _ _ _ _ _)
   | (with_reducible exact wu.mono _ _ _ _)
   | (with_reducible exact wV.mono _ _)
   | (with_reducible exact xe.mono _ _ _ _)
   | (with_reducible exact we.mono _ _ _ _ _ _)
   | (with_reducible exact vB.mono _ _ _)
   | (with_reducible first | exact vP.refl _ | exact vP.none _ | apply vP.ite | refine vP.bind ?_ fun _ => ?_)
  ·intro y0 y1 y2 y3 y4 y5 y6 y7
   unfold xd.l1
   repeat' first
   | (with_reducible exact ih0 _ _ _ _ _)
   | (with_reducible exact ih1 _ _ _ _ _ _ _ _)
   | (with_reducible exact wu.mono _ _ _ _)
   | (with_reducible exact wV.mono _ _)
   | (with_reducible exact xe.mono _ _ _ _)
   | (with_reducible exact we.mono _ _ _ _ _ _)
   | (with_reducible exact vB.mono _ _ _)
   | (with_reducible first | exact vP.refl _ | exact vP.none _ | apply vP.ite | refine vP.bind ?_ fun _ => ?_)
theorem xd.mono : ∀ a0 a1 a2 k, vP (xd.f k a0 a1 a2) (xd.f (k + 1) a0 a1 a2) := by
 intro a0 a1 a2 k
 obtain ⟨ih0, ih1⟩ := xd.wj k
 unfold xd.f
 repeat' first
   | (with_reducible exact ih0 _ _ _ _ _)
   | (with_reducible exact ih1 _ _ _ _ _ _ _ _)
   | (with_reducible exact wu.mono _ _ _ _)
   | (with_reducible exact wV.mono _ _)
   | (with_reducible exact xe.mono _ _ _ _)
   | (with_reducible exact we.mono _ _ _ _ _ _)
   | (with_reducible exact vB.mono _ _ _)
   | (with_reducible first | exact vP.refl _ | exact vP.none _ | apply vP.ite | refine vP.bind ?_ fun _ => ?_)
set_option maxHeartbeats 8000000 in
set_option maxRecDepth 100000 in
theorem xd.calls (k : Nat) (a0_0 : Int) (a0_1 : Int) (A0_2 : Option Addr) (c0_2 : Nat) (l0_2 : List Int) (r1 : List Int) (r2 : Int) (w : World) (hr0_2 : Kd.C (Kd.int .u8) w A0_2 l0_2.length l0_2) (hc0_2 : l0_2.length ≤ c0_2) (h : xd.f k a0_0 a0_1 l0_2 = some (r1, r2)) :
  Calls Tryd.prog 25 #[.agg #[.int .i64 a0_0, .int .i64 a0_1, .slice A0_2 l0_2.length c0_2]] w fun e w' => ∃ v0_ : Value, e = .returned (.tuple #[v0_, .int .i64 r2]) ∧ Kd.R (Kd.int .u8) 5 w' w.heap.size (fun _ => True) v0_ r1 ∧ Below w.heap.size w w' := by
 have hu48 := Tryd.underlying48
 have hu69 := Tryd.underlying69
 have HR0_2 := Aside0.mk hr0_2
 have HC0_2 := Aside0.mk hc0_2
 clear hr0_2 hc0_2
 have HB := Aside0.mk (Below.refl w.heap.size w)
 have H := h
 unfold xd.f at H
 clear h
 obtain ⟨t325, A2, H⟩ := oB H
 try dsimp only at H
 by_cases c3 : t325 = true
 ·subst c3
  rw [if_pos rfl] at H
  by_cases c4 : 0 ≤ a0_0
  ·rw [if_pos c4] at H
   have c4b0 := eq_true c4
   have c4b1 := decide_eq_true c4
   clear c4
   by_cases c5 : (a0_0 : Int).toNat ≤ 281474976710656
   ·rw [if_pos c5] at H
    have c5b0 := eq_true c5
    have c5b1 := decide_eq_true c5
    clear c5
    obtain ⟨y326, hy_⟩ : ∃ y_ : List Int, y_ = (List.replicate (a0_0 : Int).toNat 0) := ⟨_, rfl⟩
    replace H : ((xe.f k a0_0 a0_1 l0_2).bind fun t329 => (xd.l0 k ([] : List Int) y326 t329 (t329.length : Int) 0)) = some (r1, r2) := rh
    have Ny326 := aE hy_
    clear hy_
    obtain ⟨t329, A6, H⟩ := oB H
    try dsimp only at H
    have H' := Aside0.mk H
    clear H
    go_enter Tryd.func25, Tryd.ntmps25
    go_wp2_with (first | ((with_reducible refine gd 1 rfl ?_); refine bx 1 #[.int .i64 a0_0, .int .i64 a0_1, .slice A0_2 l0_2.length c0_2] 48 rfl rfl ?_; intro gb324 hg w7 hbox hb; have n_ := aC (bs hb) (aC hbox (aC (gz hg) (aE (gz hg)))); clear HB; obtain ⟨HB, BK324, GW324, GE324⟩ := n_; clear hb hbox hg; obtain ⟨hcz8_0, hcz8_1, hcz8_2, hfz8_0, hfz8_1, hfz8_2⟩ := zo BK324.out) | (refine gF 47 11 Tryd.func47 #[.agg #[.int .i64 a0_0, .int .i64 a0_1, .slice A0_2 l0_2.length c0_2]] rfl rfl ?_; (with_reducible refine (wu.calls k a0_0 a0_1 _ _ l0_2 true _ ?side1 ?side2 A2.out).mono ?_); (case side1 => exact cU (Kd.wO HR0_2.out HB.out)); (case side2 => exact HC0_2.out); rintro e w9 ⟨rfl, hb⟩; refine ⟨_, rfl, ?_⟩; have n_ := aC (vu (bU BK324.out) hb) (aE (bs hb)); clear BK324 HB; obtain ⟨BK324, HB⟩ := n_; obtain ⟨hcz10_0, hcz10_1, hcz10_2, hfz10_0, hfz10_1, hfz10_2⟩ := zo BK324.out) | ((with_reducible refine gd 15 rfl ?_); refine Kd.jF (Kd.int .u8) _ 5 rfl (N := 15) rfl 22 _ _ rfl a0_0 rfl rfl Tryd.underlying22 (.int .u8 0) 1 info5 rfl (by decide) (by omega) 0 (ok := fun _ => True) (okp := fun _ => True) rfl (fun _ hk => hk) trivial (dt) (Nat.le_trans (Nat.mul_le_mul_right _ (dt : a0_0.toNat ≤ 281474976710656)) (by omega)) (Below.refl _ _) (Nat.le_refl _) ?_; intro v327 w11 ho12 hb hg_ hnew_; clear hg_ hnew_; (first | rw [← Ny326.out] at ho12 | (simp only [Int.reduceToNat] at ho12; rw [← Ny326.out] at ho12)); have n_ := aC (Kd.vX ho12 bz) (aC (vu (bU BK324.out) hb) (aE (bs hb))); clear BK324 HB; obtain ⟨HO328, BK324, HB⟩ := n_; clear hb ho12; obtain ⟨hcz13_0, hcz13_1, hcz13_2, hfz13_0, hfz13_1, hfz13_2⟩ := zo BK324.out) | (refine gF 48 17 Tryd.func48 #[.agg #[.int .i64 a0_0, .int .i64 a0_1, .slice A0_2 l0_2.length c0_2]] rfl rfl ?_; (with_reducible refine (xe.calls k a0_0 a0_1 (fun k_ => k_ < w.heap.size) _ _ l0_2 t329 _ ?side1 A6.out).mono ?_); (case side1 => exact Kd.V_mk HC0_2.out (Kd.kd (Kd.C_F (Kd.yu .u8) HR0_2.out) bl)); rintro e w14 ⟨v330, rfl, ho0, hb⟩; refine ⟨_, rfl, ?_⟩; have n_ := aC (Kd.vT (rU HO328.out) hb) (aC (Kd.N_lower (Kd.zY (ok' := fun k_ => some k_ ≠ (v327 : Value).ownBlock ∧ k_ ≠ gb324) ho0 (fun k_ hk_ => ⟨Or.elim hk_ (fun hs_ => fun e_ => Nat.not_le.2 hs_ (Kd.xi HO328.out k_ e_.symm)) (fun hn_ => (Kd.fresh' (Kd.xX (rU HO328.out)) k_ hn_)), Or.elim hk_ (fun hs_ => fun e_ => Nat.not_le.2 hs_ (by rw [e_]; exact GW324.out)) (fun hn_ => (Kd.km (bU BK324.out) k_ hn_))⟩)) bz) (aC (vu (bU BK324.out) hb) (aE (bs hb)))); clear HO328 BK324 HB; obtain ⟨HO328, HO331, BK324, HB⟩ := n_; obtain ⟨Ao15, co15, eo15⟩ := Kd.N_slice HO331.out; subst eo15))
    go_loopg [4, 5, 19] k (fun kq v4 v5 v19 w' => ∃ (x4_1 : List Int) (x5_1 : List Int) (x19_1 : Int), v19 = .int .i64 x19_1 ∧ Aside0 (xd.l0 kq x4_1 x5_1 t329 (t329.length : Int) x19_1 = some (r1, r2)) ∧ Aside0 (kq ≤ k) ∧ Aside0 (Kd.R (Kd.int .u8) 5 w' w.heap.size (fun _ => True) v4 x4_1) ∧ Aside0 (Kd.V (Kd.int .u8) 5 w' w.heap.size (fun k_ => some k_ ≠ (v4 : Value).ownBlock ∧ k_ ≠ gb324) v5 x5_1) ∧ Aside0 (Kd.N (Kd.slice 5 (Kd.int .u8)) 22 w' w.heap.size (fun k_ => some k_ ≠ (v4 : Value).ownBlock ∧ k_ ≠ gb324) (.slice Ao15 t329.length co15) t329) ∧ Aside0 (w'.heap[gb324]? = some (.cells #[.int .i64 a0_0, .int .i64 a0_1, (.slice A0_2 l0_2.length c0_2)] 48 (0, 0))) ∧ Aside0 (Below w.heap.size w w'))
    case atStart => exact ⟨(([] : List Int)), (y326), (0), rq, H', ⟨Nat.le_refl _⟩, ⟨by first | exact Kd.yC _ _ _ _ _ | exact Kd.za _ _ _ _ _ | exact Kd.y9 _ _ _ _ _ | exact Kd.zb _ _ _ _ _ | exact Kd.yZ _ _ _ _ _⟩, ⟨Kd.R_V (rU (Kd.vY (Kd.xu HO328.out BK324.out (by decide)) (fun _ hk => ⟨(by simp [Value.ownBlock]), hk.2⟩)))⟩, ⟨by (with_reducible repeat (first | apply Kd.zA | apply Kd.zC | apply Kd.z5)); exact Kd.zY HO331.out (fun _ hk => ⟨(by simp [Value.ownBlock]), hk.2⟩)⟩, ⟨bU BK324.out⟩, ⟨bl⟩⟩
    case round =>
     clear H'
     obtain ⟨x4_1, x5_1, x19_1, rfl, HA, HK1, HO_4, HO_5, HO_17, BK324, HB⟩ := hrel
     cases gk with
     | zero => exact absurd HA.out (by simp [xd.l0])
     | succ k1 =>
      have H := HA.out
      clear HA
      simp only [xd.l0] at H
      rcases iL H with H1 | H1 <;> clear H <;> obtain ⟨H, c16b0⟩ := H1
      ·by_cases c17 : 0 ≤ x19_1
       ·rw [if_pos c17] at H
        have c17b0 := decide_eq_true c17
        clear c17
        by_cases c18 : x19_1 < (t329.length : Int)
        ·rw [if_pos c18] at H
         have c18b0 := decide_eq_true c18
         clear c18
         obtain ⟨t337, A19, H⟩ := oB H
         try dsimp only at H
         have H' := Aside0.mk H
         clear H
         have p336 : 0 ≤ (x19_1 : Int) := dt
         have q336 : x19_1 < (t329.length : Int) := dt
         obtain ⟨ad336, A336_0, c336_0, e336, hx336_0, hl336_0, hi336_0⟩ := at_L8 (Kd.N_reads' HO_17.out).2.2 x19_1 p336 q336
         cases e336
         obtain ⟨ce336, hce336, hMe336, hcc336⟩ := Kd.N_get HO_17.out [] x19_1 p336 (by first | exact q336 | exact dt | (have e_ := (Kd.N_reads' HO_17.out).1; omega))
         obtain ⟨ua336_0, uc336_0, rfl, ul336_0, ge336_0⟩ := Kd.FK_slice_open hMe336
         have hv336_0 := hcc336 0 _ rfl
         rw [Nat.add_zero, show ((Kd.slice 5 (Kd.int .u8))).sz = 1 from rfl, Nat.mul_one] at hv336_0
         replace hv336_0 := Option.some.inj (hv336_0.symm.trans hx336_0)
         injection hv336_0 with hva_ hvn_ hvc_
         rw [hva_] at ge336_0
         rw [hvc_] at ul336_0
         have HL336_0 := Aside0.mk (show Kd.V (Kd.int .u8) 5 _ w.heap.size _ _ (yS t329 x19_1) from Kd.V_mk ul336_0 ge336_0)
         clear hva_ hvn_ hvc_ ge336_0 ul336_0
         clear hcc336 hce336
         have HR336_0 := Aside0.mk hi336_0
         have HC336_0 := Aside0.mk hl336_0
         clear hi336_0 hl336_0
         replace p336 := eq_true p336
         replace q336 := eq_true q336
         obtain ⟨Ao20, co20, eo20⟩ := Kd.V_slice HO_5.out
         subst eo20
         go_wp2_with (first | (refine gF 41 25 Tryd.func41 #[.slice Ao20 x5_1.length co20, .slice A336_0 (yS t329 x19_1).length c336_0] rfl rfl ?_; (with_reducible refine (vB.calls k1 _ _ x5_1 _ _ (yS t329 x19_1) t337 _ ?side1 ?side2 ?side3 ?side4 A19.out).mono ?_); (case side1 => exact cU (Kd.V_reads' HO_5.out).2.2); (case side2 => exact (Kd.V_reads' HO_5.out).2.1); (case side3 => repeat (first | exact (by repeat (first | (with_reducible exact HR336_0.out) | (with_reducible refine Kd.yk ?_ _) | (with_reducible refine Kd.yj ?_ _) | (with_reducible refine Kd.yI ?_) | exact HR336_0.out)) | (with_reducible refine Kd.yk ?_ _) | (with_reducible refine Kd.yj ?_ _) | (with_reducible refine Kd.yI ?_))); (case side4 => exact HC336_0.out); rintro e w21 ⟨v338, rfl, ho0, hb⟩; refine ⟨_, rfl, ?_⟩; have n_ := aC (Kd.vT (rU HO_4.out) hb) (aC (Kd.V_elder' (by (with_reducible repeat (first | apply Kd.zn | apply Kd.zk | apply Kd.zH)); exact HO_5.out) (Kd.xi ho0) hb) (aC (Kd.N_elder' (by (with_reducible repeat (first | apply Kd.zA | apply Kd.zC | apply Kd.z5)); exact HO_17.out) (Kd.xi ho0) hb) (aC (Kd.V_elder' (by (with_reducible repeat (first | apply Kd.zn | apply Kd.zk | apply Kd.zH)); exact HL336_0.out) (Kd.xi ho0) hb) (aC (Kd.vX ho0 bz) (aC (vu (bU BK324.out) hb) (aC (Kd.wO (by repeat (first | (with_reducible exact HR336_0.out) | (with_reducible refine Kd.yk ?_ _) | (with_reducible refine Kd.yj ?_ _) | (with_reducible refine Kd.yI ?_) | exact HR336_0.out)) hb) (aE (bs hb)))))))); clear HO_4 HO_5 HO_17 HL336_0 BK324 HR336_0 HB; obtain ⟨HO_4, HO_5, HO_17, HL336_0, HO339, BK324, HR336_0, HB⟩ := n_; obtain ⟨Ao22, co22, eo22⟩ := Kd.wq HO339.out; subst eo22))
         go_loopg [4, 27] k1 (fun kq v4 v27 w' => ∃ (x4_2 : List Int) (x27_2 : Int), v27 = .int .i64 x27_2 ∧ Aside0 (xd.l1 kq x4_2 (yS t329 x19_1) t329 (t329.length : Int) x19_1 t337 (t337.length : Int) x27_2 = some (r1, r2)) ∧ Aside0 (kq ≤ k1) ∧ Aside0 (Kd.R (Kd.int .u8) 5 w' w.heap.size (fun _ => True) v4 x4_2) ∧ Aside0 (Kd.V (Kd.int .u8) 5 w' w.heap.size (fun k_ => some k_ ≠ (v4 : Value).ownBlock ∧ some k_ ≠ ((.slice (some ad336) t329.length co15) : Value).ownBlock ∧ some k_ ≠ ((.slice Ao22 t337.length co22) : Value).ownBlock ∧ k_ ≠ gb324) (.slice A336_0 (yS t329 x19_1).length c336_0) (yS t329 x19_1)) ∧ Aside0 (Kd.N (Kd.slice 5 (Kd.int .u8)) 22 w' w.heap.size (fun k_ => some k_ ≠ (v4 : Value).ownBlock ∧ some k_ ≠ ((.slice Ao22 t337.length co22) : Value).ownBlock ∧ k_ ≠ gb324) (.slice (some ad336) t329.length co15) t329) ∧ Aside0 (Kd.R k69 69 w' w.heap.size (fun _ => True) (.slice Ao22 t337.length co22) t337) ∧ Aside0 (w'.heap[gb324]? = some (.cells #[.int .i64 a0_0, .int .i64 a0_1, (.slice A0_2 l0_2.length c0_2)] 48 (0, 0))) ∧ Aside0 (Below w.heap.size w w'))
         case atStart => exact ⟨(x4_1), (0), rq, H', ⟨Nat.le_refl _⟩, ⟨rU HO_4.out⟩, ⟨by (with_reducible repeat (first | apply Kd.zn | apply Kd.zk | apply Kd.zH)); exact Kd.zK HL336_0.out (fun _ hk => ⟨hk.1.1.1, ⟨hk.1.2, ⟨hk.2, hk.1.1.2⟩⟩⟩)⟩, ⟨by (with_reducible repeat (first | apply Kd.zA | apply Kd.zC | apply Kd.z5)); exact Kd.zY HO_17.out (fun _ hk => ⟨hk.1.1, ⟨hk.2, hk.1.2⟩⟩)⟩, ⟨rU HO339.out⟩, ⟨bU BK324.out⟩, ⟨bl⟩⟩
         case round =>
          clear H'
          obtain ⟨x4_2, x27_2, rfl, HA, HK2, HO_4, HO_7, HO_17, HO_25, BK324, HB⟩ := hrel
          cases gk with
          | zero => exact absurd HA.out (by simp [xd.l1])
          | succ k2 =>
           have H := HA.out
           clear HA
           simp only [xd.l1] at H
           rcases iL H with H1 | H1 <;> clear H <;> obtain ⟨H, c23b0⟩ := H1
           ·by_cases c24 : 0 ≤ x27_2
            ·rw [if_pos c24] at H
             have c24b0 := decide_eq_true c24
             clear c24
             by_cases c25 : x27_2 < (t337.length : Int)
             ·rw [if_pos c25] at H
              have c25b0 := decide_eq_true c25
              clear c25
              obtain ⟨t342, A26, H⟩ := oB H
              try dsimp only at H
              by_cases c27 : x4_2.length + t342.length < 140737488355328
              ·rw [if_pos c27] at H
               have LMc27 := Aside0.mk c27
               clear c27
               obtain ⟨y345, hy_⟩ : ∃ y_ : List Int, y_ = (x4_2 ++ t342) := ⟨_, rfl⟩
               replace H : (xd.l1 k2 y345 (yS t329 x19_1) t329 (t329.length : Int) x19_1 t337 (t337.length : Int) (wrap64 (x27_2 + 1))) = some (r1, r2) := rh
               have Ny345 := aE hy_
               clear hy_
               have H' := Aside0.mk H
               clear H
               have p340 : 0 ≤ (x27_2 : Int) := dt
               have q340 : x27_2 < (t337.length : Int) := dt
               obtain ⟨ad340, e340, hx340_0, hx340_1, hx340_2, hx340_3, hx340_4⟩ := at_T69 (Kd.R_reads' HO_25.out).2.2 x27_2 p340 q340
               cases e340
               replace p340 := eq_true p340
               replace q340 := eq_true q340
               go_wp2_with (first | ((with_reducible refine gd 9 rfl ?_); refine bx 9 #[.string (⟨#[]⟩ : ByteArray), .int .i64 0, .int .i64 0, .int .i64 0, .int .i64 0] 69 rfl rfl ?_; intro gb341 hg w28 hbox hb; have n_ := aC (Kd.vT (rU HO_4.out) hb) (aC (Kd.V_below (Kd.V_elderB (by (with_reducible repeat (first | apply Kd.zn | apply Kd.zk | apply Kd.zH)); exact HO_7.out) gb341 (Nat.le_of_eq hg.symm)) hb) (aC (Kd.j7 (Kd.N_elderB (by (with_reducible repeat (first | apply Kd.zA | apply Kd.zC | apply Kd.z5)); exact HO_17.out) gb341 (Nat.le_of_eq hg.symm)) hb) (aC (Kd.vT (Kd.jI (rU HO_25.out) gb341 (Nat.le_of_eq hg.symm)) hb) (aC (vu (bU BK324.out) hb) (aC (bs hb) (aC hbox (aC (gz hg) (aC (gz hg) (aC (gn hg (bU BK324.out)) (aE (gm hg (bU BK324.out)))))))))))); clear HO_4 HO_7 HO_17 HO_25 BK324 HB; obtain ⟨HO_4, HO_7, HO_17, HO_25, BK324, HB, BK341, GW341, GE341, NB324_341, NB341_324⟩ := n_; clear hb hbox hg; have hnb29 := NB341_324.out; have hnc29 := NB324_341.out; obtain ⟨hcz30_0, hcz30_1, hcz30_2, hcz30_3, hcz30_4, hfz30_0, hfz30_1, hfz30_2, hfz30_3, hfz30_4⟩ := ya BK341.out) | (refine gF 50 33 Tryd.func50 #[.agg #[.string ((vS t337 x27_2).f0), .int .i64 ((vS t337 x27_2).f1), .int .i64 ((vS t337 x27_2).f2.f0), .int .i64 ((vS t337 x27_2).f2.f1), .int .i64 ((vS t337 x27_2).f3)]] rfl rfl ?_; (with_reducible refine (we.calls k2 ((vS t337 x27_2).f0) ((vS t337 x27_2).f1) ((vS t337 x27_2).f2.f0) ((vS t337 x27_2).f2.f1) ((vS t337 x27_2).f3) t342 _ A26.out).mono ?_); rintro e w31 ⟨v343, rfl, ho0, hb⟩; refine ⟨_, rfl, ?_⟩; have n_ := aC (Kd.R_elder' (rU (Kd.vY (Kd.wI (p := ⟨gb341, 4, none⟩) (Kd.wI (p := ⟨gb341, 3, none⟩) (Kd.wI (p := ⟨gb341, 2, none⟩) (Kd.wI (p := ⟨gb341, 1, none⟩) (Kd.wI (p := ⟨gb341, 0, none⟩) (Kd.xu HO_4.out BK341.out (by decide)) (fun _ hk => hk.2) (.string ((vS t337 x27_2).f0))) (fun _ hk => hk.2) (.int .i64 ((vS t337 x27_2).f1))) (fun _ hk => hk.2) (.int .i64 ((vS t337 x27_2).f2.f0))) (fun _ hk => hk.2) (.int .i64 ((vS t337 x27_2).f2.f1))) (fun _ hk => hk.2) (.int .i64 ((vS t337 x27_2).f3))) (fun _ h_ => h_.1))) (Kd.qk ho0) hb) (aC (Kd.V_elder' (by (with_reducible repeat (first | apply Kd.zn | apply Kd.zk | apply Kd.zH)); exact (Kd.zK (Kd.V_far (p := ⟨gb341, 4, none⟩) (Kd.V_far (p := ⟨gb341, 3, none⟩) (Kd.V_far (p := ⟨gb341, 2, none⟩) (Kd.V_far (p := ⟨gb341, 1, none⟩) (Kd.V_far (p := ⟨gb341, 0, none⟩) (Kd.zK HO_7.out (fun k_ hk => (⟨hk, hk.2⟩ : _ ∧ k_ ≠ gb341))) (fun _ hk => hk.2) (.string ((vS t337 x27_2).f0))) (fun _ hk => hk.2) (.int .i64 ((vS t337 x27_2).f1))) (fun _ hk => hk.2) (.int .i64 ((vS t337 x27_2).f2.f0))) (fun _ hk => hk.2) (.int .i64 ((vS t337 x27_2).f2.f1))) (fun _ hk => hk.2) (.int .i64 ((vS t337 x27_2).f3))) (fun _ h_ => h_.1))) (Kd.qk ho0) hb) (aC (Kd.N_elder' (by (with_reducible repeat (first | apply Kd.zA | apply Kd.zC | apply Kd.z5)); exact (Kd.zY (Kd.N_far (p := ⟨gb341, 4, none⟩) (Kd.N_far (p := ⟨gb341, 3, none⟩) (Kd.N_far (p := ⟨gb341, 2, none⟩) (Kd.N_far (p := ⟨gb341, 1, none⟩) (Kd.N_far (p := ⟨gb341, 0, none⟩) (Kd.zY HO_17.out (fun k_ hk => (⟨hk, hk.2⟩ : _ ∧ k_ ≠ gb341))) (fun _ hk => hk.2) (.string ((vS t337 x27_2).f0))) (fun _ hk => hk.2) (.int .i64 ((vS t337 x27_2).f1))) (fun _ hk => hk.2) (.int .i64 ((vS t337 x27_2).f2.f0))) (fun _ hk => hk.2) (.int .i64 ((vS t337 x27_2).f2.f1))) (fun _ hk => hk.2) (.int .i64 ((vS t337 x27_2).f3))) (fun _ h_ => h_.1))) (Kd.qk ho0) hb) (aC (Kd.vT (rU (Kd.vY (Kd.wI (p := ⟨gb341, 4, none⟩) (Kd.wI (p := ⟨gb341, 3, none⟩) (Kd.wI (p := ⟨gb341, 2, none⟩) (Kd.wI (p := ⟨gb341, 1, none⟩) (Kd.wI (p := ⟨gb341, 0, none⟩) (Kd.vY HO_25.out (fun k_ hk => (⟨hk, hk.2⟩ : _ ∧ k_ ≠ gb341))) (fun _ hk => hk.2) (.string ((vS t337 x27_2).f0))) (fun _ hk => hk.2) (.int .i64 ((vS t337 x27_2).f1))) (fun _ hk => hk.2) (.int .i64 ((vS t337 x27_2).f2.f0))) (fun _ hk => hk.2) (.int .i64 ((vS t337 x27_2).f2.f1))) (fun _ hk => hk.2) (.int .i64 ((vS t337 x27_2).f3))) (fun _ h_ => h_.1))) hb) (aC (Kd.j4 (Kd.U_new' ho0 (Kd.xX (rU (Kd.vY (Kd.wI (p := ⟨gb341, 4, none⟩) (Kd.wI (p := ⟨gb341, 3, none⟩) (Kd.wI (p := ⟨gb341, 2, none⟩) (Kd.wI (p := ⟨gb341, 1, none⟩) (Kd.wI (p := ⟨gb341, 0, none⟩) (Kd.xu HO_4.out BK341.out (by decide)) (fun _ hk => hk.2) (.string ((vS t337 x27_2).f0))) (fun _ hk => hk.2) (.int .i64 ((vS t337 x27_2).f1))) (fun _ hk => hk.2) (.int .i64 ((vS t337 x27_2).f2.f0))) (fun _ hk => hk.2) (.int .i64 ((vS t337 x27_2).f2.f1))) (fun _ hk => hk.2) (.int .i64 ((vS t337 x27_2).f3))) (fun _ h_ => h_.1))))) bz) (aC (vu (g := gb324) (o := .cells #[.int .i64 a0_0, .int .i64 a0_1, .slice A0_2 l0_2.length c0_2] 48 (0, 0)) (by (with_reducible repeat first | apply vl | apply vn | apply vm); refine vV ?_ NB324_341.out _; (with_reducible repeat first | apply vl | apply vn | apply vm); refine vV ?_ NB324_341.out _; (with_reducible repeat first | apply vl | apply vn | apply vm); refine vV ?_ NB324_341.out _; (with_reducible repeat first | apply vl | apply vn | apply vm); refine vV ?_ NB324_341.out _; (with_reducible repeat first | apply vl | apply vn | apply vm); refine vV ?_ NB324_341.out _; (with_reducible repeat first | apply vl | apply vn | apply vm); exact BK324.out) hb) (aC (vu (g := gb341) (o := .cells #[.string ((vS t337 x27_2).f0), .int .i64 ((vS t337 x27_2).f1), .int .i64 ((vS t337 x27_2).f2.f0), .int .i64 ((vS t337 x27_2).f2.f1), .int .i64 ((vS t337 x27_2).f3)] 69 (0, 0)) (by (with_reducible repeat first | apply vl | apply vn | apply vm); refine vv (cs := #[.string ((vS t337 x27_2).f0), .int .i64 ((vS t337 x27_2).f1), .int .i64 ((vS t337 x27_2).f2.f0), .int .i64 ((vS t337 x27_2).f2.f1), .int .i64 0]) ?_ 4 _ rfl; (with_reducible repeat first | apply vl | apply vn | apply vm); refine vv (cs := #[.string ((vS t337 x27_2).f0), .int .i64 ((vS t337 x27_2).f1), .int .i64 ((vS t337 x27_2).f2.f0), .int .i64 0, .int .i64 0]) ?_ 3 _ rfl; (with_reducible repeat first | apply vl | apply vn | apply vm); refine vv (cs := #[.string ((vS t337 x27_2).f0), .int .i64 ((vS t337 x27_2).f1), .int .i64 0, .int .i64 0, .int .i64 0]) ?_ 2 _ rfl; (with_reducible repeat first | apply vl | apply vn | apply vm); refine vv (cs := #[.string ((vS t337 x27_2).f0), .int .i64 0, .int .i64 0, .int .i64 0, .int .i64 0]) ?_ 1 _ rfl; (with_reducible repeat first | apply vl | apply vn | apply vm); refine vv (cs := #[.string (⟨#[]⟩ : ByteArray), .int .i64 0, .int .i64 0, .int .i64 0, .int .i64 0]) ?_ 0 _ rfl; (with_reducible repeat first | apply vl | apply vn | apply vm); exact BK341.out) hb) (aE (bs hb)))))))); clear HO_4 HO_7 HO_17 HO_25 BK324 BK341 HB; obtain ⟨HO_4, HO_7, HO_17, HO_25, HO344, BK324, BK341, HB⟩ := n_; obtain ⟨Ao33, co33, eo33⟩ := Kd.U_slice HO344.out; subst eo33) | ((with_reducible refine xb (b := .append) (xs := #[.tmp 31, .tmp 33]) rfl ?_); at_builtin; refine Kd.xW (Kd.int .u8) (w0 := w) w.heap.size rfl (.tmp 31) (.tmp 33) 22 5 (.int .u8 0) 1 rfl Tryd.underlying22 info5 rfl (by decide) (by omega) u4 x4_2 t342 _ _ _ (fun k_ => some k_ ≠ (.slice Ao33 t342.length co33 : Value).ownBlock) (fun _ => False) rfl rfl ?aO ?aR (fun _ _ h => h) (fun _ h => h.elim) ?aF ?aB ?aS ?aL ?_; (case aR => repeat (first | exact (Kd.U_reads' HO344.out).2.2 | (with_reducible refine Kd.yk ?_ _) | (with_reducible refine Kd.yj ?_ _) | (with_reducible refine Kd.yI ?_))); (case aB => exact bl); (case aF => exact (fun k_ hk => Kd.fresh' (Kd.U_lt (by (with_reducible repeat (first | apply Kd.zl | apply Kd.zj | apply Kd.zG)); exact HO344.out)) k_ hk)); (case aO => exact (rU (Kd.vY HO_4.out (fun _ hk => hk.2)))); (case aS => exact bz); (case aL => have := LMc27.out; omega); intro v346 w32 ho hb hg hat; rw [← Ny345.out] at ho; have n_ := aC (Kd.qi (ok := (fun k_ => some k_ ≠ (.slice (some ad336) t329.length co15 : Value).ownBlock ∧ some k_ ≠ (.slice (some ad340) t337.length co22 : Value).ownBlock ∧ some k_ ≠ (.slice Ao33 t342.length co33 : Value).ownBlock ∧ k_ ≠ gb324 ∧ k_ ≠ gb341)) (by (with_reducible repeat (first | apply Kd.zn | apply Kd.zk | apply Kd.zH)); exact Kd.zK HO_7.out (fun _ hk => ⟨⟨hk.1.1.2.1, ⟨hk.1.1.2.2.1, ⟨hk.2, ⟨hk.1.1.2.2.2, hk.1.2⟩⟩⟩⟩, hk.1.1.1⟩)) hg hat) (aC (Kd.N_afterv (ok := (fun k_ => some k_ ≠ (.slice (some ad340) t337.length co22 : Value).ownBlock ∧ some k_ ≠ (.slice Ao33 t342.length co33 : Value).ownBlock ∧ k_ ≠ gb324 ∧ k_ ≠ gb341)) (by (with_reducible repeat (first | apply Kd.zA | apply Kd.zC | apply Kd.z5)); exact Kd.zY HO_17.out (fun _ hk => ⟨⟨hk.1.1.2.1, ⟨hk.2, ⟨hk.1.1.2.2, hk.1.2⟩⟩⟩, hk.1.1.1⟩)) hg hat) (aC (Kd.R_over' (rU HO_25.out) (Kd.zB (rU HO_4.out)) (by decide) hg) (aC (xx (bU BK324.out) hg (Kd.jh HO_4.out BK324.out (by decide))) (aC (xx (g := gb341) (o := .cells #[.string ((vS t337 x27_2).f0), .int .i64 ((vS t337 x27_2).f1), .int .i64 ((vS t337 x27_2).f2.f0), .int .i64 ((vS t337 x27_2).f2.f1), .int .i64 ((vS t337 x27_2).f3)] 69 (0, 0)) (bU BK341.out) hg (Kd.jh HO_4.out BK341.out (by decide))) (aC (Kd.U_after (ok := (fun _ => True)) (by (with_reducible repeat (first | apply Kd.zl | apply Kd.zj | apply Kd.zG)); exact HO344.out) hg hat) (aC hb (aE ho))))))); clear HO_7 HO_17 HO_25 BK324 BK341 HO344 HB HO_4; obtain ⟨HO_7, HO_17, HO_25, BK324, BK341, HO344, HB, HO347⟩ := n_; clear ho hb hg hat))
               go_roundg k2
               case measure => have := HK1.out; have := HK2.out; omega
               case rel => exact ⟨(y345), (wrap64 (x27_2 + 1)), rq, H', ⟨by have := HK1.out; have := HK2.out; omega⟩, ⟨rU (Kd.vY HO347.out (fun _ hk => trivial))⟩, ⟨by (with_reducible repeat (first | apply Kd.zn | apply Kd.zk | apply Kd.zH)); exact Kd.zK HO_7.out (fun _ hk => ⟨hk.2, ⟨hk.1.1, ⟨hk.1.2.1, hk.1.2.2.2.1⟩⟩⟩)⟩, ⟨by (with_reducible repeat (first | apply Kd.zA | apply Kd.zC | apply Kd.z5)); exact Kd.zY HO_17.out (fun _ hk => ⟨hk.2, ⟨hk.1.1, hk.1.2.2.1⟩⟩)⟩, ⟨rU (Kd.vY HO_25.out (fun _ hk => trivial))⟩, ⟨bU BK324.out⟩, ⟨bl⟩⟩
              ·rw [if_neg c27] at H
               exact absurd H (by simp)
             ·rw [if_neg c25] at H
              exact absurd H (by simp)
            ·rw [if_neg c24] at H
             exact absurd H (by simp)
           ·have H' := Aside0.mk H
            clear H
            go_wp2
            go_roundg k2
            case measure => have := HK1.out; have := HK2.out; omega
            case rel => exact ⟨(x4_2), ((yS t329 x19_1)), (wrap64 (x19_1 + 1)), rq, H', ⟨by have := HK1.out; have := HK2.out; omega⟩, ⟨rU HO_4.out⟩, ⟨by (with_reducible repeat (first | apply Kd.zn | apply Kd.zk | apply Kd.zH)); exact Kd.zK HO_7.out (fun _ hk => ⟨hk.1, hk.2.2.2⟩)⟩, ⟨by (with_reducible repeat (first | apply Kd.zA | apply Kd.zC | apply Kd.z5)); exact Kd.zY HO_17.out (fun _ hk => ⟨hk.1, hk.2.2⟩)⟩, ⟨bU BK324.out⟩, ⟨bl⟩⟩
        ·rw [if_neg c18] at H
         exact absurd H (by simp)
       ·rw [if_neg c17] at H
        exact absurd H (by simp)
      ·obtain ⟨⟨t332, t333⟩, A34, H⟩ := oB H
       try dsimp only at H
       simp only [Option.some.injEq, Prod.mk.injEq] at H
       obtain ⟨rfl, rfl⟩ := H
       obtain ⟨Ao35, co35, eo35⟩ := Kd.wq HO_4.out
       subst eo35
       go_wp2_with (first | (refine gF 49 39 Tryd.func49 #[.slice Ao35 x4_1.length co35] rfl rfl ?_; (with_reducible refine (wV.calls k1 _ _ x4_1 t332 t333 _ ?side1 ?side2 A34.out).mono ?_); (case side1 => exact cU (Kd.R_reads' HO_4.out).2.2); (case side2 => exact (Kd.R_reads' HO_4.out).2.1); rintro e w36 ⟨v334, rfl, ho0, hb⟩; refine ⟨_, rfl, ?_⟩; have n_ := aC (Kd.R_elder' (rU HO_4.out) (Kd.xi ho0) hb) (aC (Kd.V_elder' (by (with_reducible repeat (first | apply Kd.zn | apply Kd.zk | apply Kd.zH)); exact HO_5.out) (Kd.xi ho0) hb) (aC (Kd.N_elder' (by (with_reducible repeat (first | apply Kd.zA | apply Kd.zC | apply Kd.z5)); exact HO_17.out) (Kd.xi ho0) hb) (aC (Kd.vX (Kd.R_new' ho0 (Kd.xX (rU HO_4.out))) bz) (aC (vu (bU BK324.out) hb) (aE (bs hb)))))); clear HO_4 HO_5 HO_17 BK324 HB; obtain ⟨HO_4, HO_5, HO_17, HO335, BK324, HB⟩ := n_))
       go_ret2
       exact ⟨_, re, rU (Kd.vY HO335.out (fun _ hk => trivial)), bl⟩
   ·rw [if_neg c5] at H
    exact absurd H (by simp)
  ·rw [if_neg c4] at H
   exact absurd H (by simp)
 ·replace c3 := Bool.eq_false_iff.mpr c3
  subst c3
  rw [if_neg Bool.false_ne_true] at H
  simp only [Option.some.injEq, Prod.mk.injEq] at H
  obtain ⟨rfl, rfl⟩ := H
  go_enter Tryd.func25, Tryd.ntmps25
  go_wp2_with (first | ((with_reducible refine gd 1 rfl ?_); refine bx 1 #[.int .i64 a0_0, .int .i64 a0_1, .slice A0_2 l0_2.length c0_2] 48 rfl rfl ?_; intro gb324 hg w37 hbox hb; have n_ := aC (bs hb) (aC hbox (aC (gz hg) (aE (gz hg)))); clear HB; obtain ⟨HB, BK324, GW324, GE324⟩ := n_; clear hb hbox hg; obtain ⟨hcz38_0, hcz38_1, hcz38_2, hfz38_0, hfz38_1, hfz38_2⟩ := zo BK324.out) | (refine gF 47 11 Tryd.func47 #[.agg #[.int .i64 a0_0, .int .i64 a0_1, .slice A0_2 l0_2.length c0_2]] rfl rfl ?_; (with_reducible refine (wu.calls k a0_0 a0_1 _ _ l0_2 false _ ?side1 ?side2 A2.out).mono ?_); (case side1 => exact cU (Kd.wO HR0_2.out HB.out)); (case side2 => exact HC0_2.out); rintro e w39 ⟨rfl, hb⟩; refine ⟨_, rfl, ?_⟩; have n_ := aC (vu (bU BK324.out) hb) (aE (bs hb)); clear BK324 HB; obtain ⟨BK324, HB⟩ := n_))
  go_ret2
  exact ⟨_, re, by first | exact Kd.yC _ _ _ _ _ | exact Kd.za _ _ _ _ _ | exact Kd.y9 _ _ _ _ _ | exact Kd.zb _ _ _ _ _ | exact Kd.yZ _ _ _ _ _, bl⟩
end Go.Proofs.YtknclbodinfbeaaDoor.PRunsSame
