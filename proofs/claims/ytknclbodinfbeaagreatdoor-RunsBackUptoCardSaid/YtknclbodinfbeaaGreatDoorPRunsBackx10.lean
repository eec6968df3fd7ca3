-- printed (wip/tools/myprint.py)
import Derived.Test.YtknclbodinfbeaaGreatDoorPRunsBackx0
import Derived.Test.YtknclbodinfbeaaGreatDoorPRunsBackx2
import Derived.Test.YtknclbodinfbeaaGreatDoorPRunsBackx7
import Derived.Test.YtknclbodinfbeaaGreatDoorPRunsBackx8
import Derived.Test.YtknclbodinfbeaaGreatDoorPRunsBackx9
namespace Go.Proofs.YtknclbodinfbeaaGreatDoor.PRunsBack
open Go.RowKit Go.Proofs.YtknclbodinfbeaaGreatDoorW.PrintWords Go.Proofs.YtknclbodinfbeaaGreatDoorW.PrintLast Go.Proofs.YtknclbodinfbeaaGreatDoorW.PrintMore
attribute [local go_sem] yo ym yC yD xU xT yn yq
set_option linter.unusedVariables false
set_option linter.unusedSimpArgs false
set_option maxHeartbeats 8000000
set_option maxRecDepth 100000
def ww.f (k : Nat) (e : ByteArray) (d : Int) (x : Int) (y : Int) (j : Int) : Option (List Int) := if e.toList = ([112, 97, 115, 115] : List UInt8) then ((xB.f k (⟨#[48, 48, 48, 49]⟩ : ByteArray)).bind fun z => (some z)) else (if e.toList = ([117, 112] : List UInt8) then ((zn.f).bind fun q => (if 0 ≤ (wrap64 (d + 3)) then (if (wrap64 (d + 3)) < (q.length : Int) then ((xB.f k (jU ByteArray.empty q (wrap64 (d + 3)))).bind fun B => (some B)) else (none)) else (none))) else ((xB.f k (⟨#[48, 48, 49]⟩ : ByteArray)).bind fun r => ((wZ.f k x j).bind fun s => (if r.length + s.length < 140737488355328 then ((some (r ++ s : List Int)).bind fun t => ((wZ.f k y (wrap64 (1 - j))).bind fun u => (if t.length + u.length < 140737488355328 then (some (t ++ u)) else (none)))) else (none)))))
theorem ww.mono : ∀ a0 a1 a2 a3 a4 k, vK (ww.f k a0 a1 a2 a3 a4) (ww.f (k + 1) a0 a1 a2 a3 a4) := by
 intro a0 a1 a2 a3 a4 k
 unfold ww.f
 repeat' first
   | (with_reducible exact xB.mono _ _)
   | (with_reducible exact wZ.mono _ _ _)
   | (with_reducible first | exact vK.refl _ | exact vK.none _ | apply vK.ite | apply vK.bind | intro)
def ww.T5 : Bool × List (List Nat × List Nat) := (true, [([], []), ([], []), ([1], [1]), ([2], [2]), ([0, 3], [0, 3]), ([4], [4]), ([5, 0], [5]), ([6, 6, 0, 1, 2, 3, 4, 5, 6], [6])])
def ww.B5 : List Nat := [0, 0, 2, 6, 15, 31, 63, 127]
theorem ww.tab5 : zi .any (opsOf Tryz.f24 5) = ww.T5 := by kernel_rfl
theorem ww.kI : yv ww.T5.2 ww.B5 = true := by kernel_rfl
def ww.T6 : Bool × List (List Nat × List Nat) := (true, [([], []), ([], []), ([1], [1]), ([2], [2]), ([], []), ([4], [4]), ([3, 5, 0], [3, 5]), ([0, 6, 6], [0, 6]), ([], []), ([8], [8]), ([9], [9]), ([], []), ([11], [11]), ([12], [12]), ([10, 13, 7], [10, 13]), ([7, 14, 14], [7, 14]), ([15, 15, 0, 1, 2, 3, 4, 5, 6, 7, 8, 9, 10, 11, 12, 13, 14, 15], [15])])
def ww.B6 : List Nat := [0, 0, 2, 6, 0, 16, 63, 127, 0, 256, 768, 0, 2048, 6144, 16383, 32767, 65535]
theorem ww.tab6 : zi .any (opsOf Tryz.f24 6) = ww.T6 := by kernel_rfl
theorem ww.qS : yv ww.T6.2 ww.B6 = true := by kernel_rfl
theorem ww.calls (k : Nat) (G : ByteArray) (z : Int) (B : Int) (u : Int) (t : Int) (r : List Int) (w : World) (h : ww.f k G z B u t = some r) :
  Calls Tryz.prog 24 #[.agg #[.string G, .int .i64 z, .int .i64 B, .int .i64 u, .int .i64 t]] w fun e w' => ∃ c1 : Value, e = .returned (c1) ∧ Kd.U (Kd.int .u8) 5 w' w.heap.size (fun _ => True) c1 r ∧ Below w.heap.size w w' := by
 have hu52 := Tryz.underlying52
 have HB := bR w
 have H := h
 unfold ww.f at H
 clear h
 rcases iE H with H1 | H1 <;> clear H <;> obtain ⟨H, h9, i0, c2⟩ := H1
 ·obtain ⟨d0, A3, H⟩ := oB H
  try dsimp only at H
  obtain rfl := Option.some.inj H
  go_enter Tryz.func24, Tryz.ntmps24
  go_wp2_with (first | ((with_reducible refine gd 1 rfl ?_); refine bx 1 #[.string G, .int .i64 z, .int .i64 B, .int .i64 u, .int .i64 t] 52 rfl rfl ?_; intro q hg w4 hbox hb; have n_ := aC (bs hb) (aC hbox (aC (gz hg) (aE (gz hg)))); clear HB; obtain ⟨HB, d, Y, Z⟩ := n_; clear hb hbox hg; obtain ⟨f6, f7, f8, f9, g0, g1, g2, g3, g4, g5⟩ := yz d.out) | ((with_reducible refine gf 40 rfl ?_); refine gL (some 7) rfl rfl Tryz.func40 rfl #[.string (⟨#[48, 48, 48, 49]⟩ : ByteArray)] rfl ?_; (with_reducible refine (xB.calls k (⟨#[48, 48, 48, 49]⟩ : ByteArray) d0 _ A3.out).mono ?_); rintro e w6 ⟨i1, rfl, s, hb⟩; refine ⟨_, rfl, ?_⟩; have n_ := aC (Kd.kD s bz) (aC (vp (bU d.out) hb) (aE (bs hb))); clear d HB; obtain ⟨b4, d, HB⟩ := n_))
  go_ret
  exact ⟨_, re, by (with_reducible repeat (first | apply Kd.zJ | apply Kd.zH | apply Kd.z5)); exact b4.out, bl⟩
 ·rcases iE H with H1 | H1 <;> clear H <;> obtain ⟨H, i2, i3, c7⟩ := H1
  ·obtain ⟨I, A8, H⟩ := oB H
   try dsimp only at H
   obtain ⟨J, O⟩ : ∃ j_ : Int, (wrap64 (z + 3)) = j_ := ⟨_, rfl⟩
   replace H : (if 0 ≤ (J) then (if (J) < (I.length : Int) then ((xB.f k (jU ByteArray.empty I (J))).bind fun a0 => (some a0)) else (none)) else (none)) = some r := by first | (rw [O] at H; exact H) | (simp only [O] at H ⊢; exact H)
   (try rw [O] at A8)
   have g6 : (IntKind.i64.wrap (z + 3)) = J := (xS _).trans O
   by_cases c10 : 0 ≤ (J)
   ·rw [if_pos c10] at H
    have g7 := decide_eq_true c10
    clear c10
    by_cases a5 : (J) < (I.length : Int)
    ·rw [if_pos a5] at H
     have g8 := decide_eq_true a5
     clear a5
     obtain ⟨a0, g9, H⟩ := oB H
     try dsimp only at H
     obtain rfl := Option.some.inj H
     go_enter Tryz.func24, Tryz.ntmps24
     try go_wp2_with (first | ((with_reducible refine gd 1 rfl ?_); refine bx 1 #[.string G, .int .i64 z, .int .i64 B, .int .i64 u, .int .i64 t] 52 rfl rfl ?_; intro q hg h3 hbox hb; have n_ := aC (bs hb) (aC hbox (aC (gz hg) (aE (gz hg)))); clear HB; obtain ⟨HB, d, Y, Z⟩ := n_; clear hb hbox hg; obtain ⟨d1, d2, d3, d4, d5, d6, d7, d8, d9, e0⟩ := yz d.out))
     have n_ := aC (vn d.out) (aE (vy HB.out))
     clear d HB
     obtain ⟨d, HB⟩ := n_
     refine st 8 (fun w' => w'.cell? ⟨q, 0, none⟩ = some (.string G) ∧ w'.cell? ⟨q, 1, none⟩ = some (.int .i64 z) ∧ w'.cell? ⟨q, 2, none⟩ = some (.int .i64 B) ∧ w'.cell? ⟨q, 3, none⟩ = some (.int .i64 u) ∧ w'.cell? ⟨q, 4, none⟩ = some (.int .i64 t)) [] (bv 8 0) ww.tab5 ww.kI ⟨jB d.out, jz d.out, jK d.out, kw d.out, kc4 d.out⟩ (fun hHeld HT_ HW_ => ?_)
     generalize h3.drew = j3 at d HB hHeld ⊢
     refine pu 1 11 (bv 8 2) HT_ rfl rfl ?_
     refine tk 2 12 (bv 8 6) HT_ HW_ hHeld rfl rfl (by rintro w' ⟨s0, s1, s2, s3, s4⟩; exact yl) ?_
     refine pu 3 13 (bv 8 14) HT_ rfl rfl ?_
     refine yA (i := 0) (N := some 10) (bv 8 15) rfl rfl (xl HT_.out (by kernel_rfl)) (by decide) (fun K hK => ?_)
     refine gK Tryz.func41 rfl #[] rfl rfl ?_
     with_reducible refine (zn.calls  I _ A8.out).mono ?_
     rintro e j4 ⟨i4, rfl, s, hb⟩
     refine ⟨_, rfl, ?_⟩
     have n_ := aC (Kd.vS s bz) (aC (vp (bU d.out) hb) (aE (bs hb)))
     clear d HB
     obtain ⟨L, d, HB⟩ := n_
     (try clear hb)
     (try clear a6)
     (try clear hk)
     (try clear hi)
     (try clear s)
     obtain ⟨i5, i6, a9⟩ := Kd.vY L.out
     (first | subst a9 | (injection a9 with f1_ f2_ f3_; have f4_ := f1_.symm; have f5_ := f3_.symm; clear f1_ f2_ f3_; subst f4_; subst f5_))
     have a1 : 0 ≤ ((J) : Int) := dt
     have a2 : (J) < (I.length : Int) := dt
     obtain ⟨h4, e1, e2⟩ := Kd.zU (Kd.R_reads' L.out).2.2 (J) a1 a2
     cases e1
     replace a1 := eq_true a1
     replace a2 := eq_true a2
     refine hK.out _ _ ⟨jB d.out, jz d.out, jK d.out, kw d.out, kc4 d.out⟩ (fun hHeld => ?_)
     clear hK K
     refine nm (some 10) ?_
     refine pu 4 14 (bv 8 31) HT_ rfl rfl ?_
     refine ld 5 15 #[true, true, true, true, true, true, false, false] HT_ rfl rfl hHeld (by go_simp; with_reducible rfl) ?_
     refine yA (i := 6) (N := some 16) (bv 8 127) rfl rfl (xl HT_.out (by kernel_rfl)) (by decide) (fun K hK => ?_)
     refine goes_ Tryz.func40 (by kernel_rfl) rfl #[.string (jU ByteArray.empty I (J))] (by rfl) rfl rfl (by (try simp only [List.map_toArray, List.map_cons, List.map_nil]); first | done | (simp only [O]; rfl) | rfl | (simp only [List.length_drop, List.length_take]; rfl)) ?_
     with_reducible refine (xB.calls k (jU ByteArray.empty I (J)) a0 _ g9.out).mono ?_
     rintro e j5 ⟨i7, rfl, s, hb⟩
     refine ⟨_, rfl, ?_⟩
     have n_ := aC (Kd.wg (rU L.out) hb) (aC (Kd.kD s bz) (aC (vp (bU d.out) hb) (aE (bs hb))))
     clear L d HB
     obtain ⟨L, b5, d, HB⟩ := n_
     (try clear hb)
     (try clear a6)
     (try clear hk)
     (try clear hi)
     (try clear s)
     refine hK.out _ _ ⟨jB d.out, jz d.out, jK d.out, kw d.out, kc4 d.out⟩ (fun hHeld => ?_)
     clear hK K
     refine nm (some 16) ?_
     refine pu 7 2 (bv 8 255) HT_ rfl rfl ?_
     refine zd (xZ HT_.out (by kernel_rfl)) ?_
     try go_wp2
     go_ret
     exact ⟨_, by first | rfl | (simp [wP, wQ] <;> rfl) | (simp only [← O]; first | rfl | (simp [wP, wQ] <;> rfl)) | (simp [*, wP, wQ] <;> rfl), by (with_reducible repeat (first | apply Kd.zJ | apply Kd.zH | apply Kd.z5)); exact b5.out, bl⟩
    ·rw [if_neg a5] at H
     exact nB H
   ·rw [if_neg c10] at H
    exact nB H
  ·obtain ⟨X, h5, H⟩ := oB H
   try dsimp only at H
   obtain ⟨M, h6, H⟩ := oB H
   try dsimp only at H
   by_cases a7 : X.length + M.length < 140737488355328
   ·rw [if_pos a7] at H
    have b6 := aE a7
    clear a7
    obtain ⟨T, hy_⟩ : ∃ y_ : List Int, y_ = (X ++ M) := ⟨_, rfl⟩
    replace H : ((wZ.f k u (wrap64 (1 - t))).bind fun D => (if T.length + D.length < 140737488355328 then (some (T ++ D)) else (none))) = some r := rh
    have b7 := aE hy_
    clear hy_
    obtain ⟨D, h7, H⟩ := oB H
    try dsimp only at H
    by_cases a8 : T.length + D.length < 140737488355328
    ·rw [if_pos a8] at H
     have b8 := aE a8
     clear a8
     obtain ⟨e3, hy_⟩ : ∃ y_ : List Int, y_ = (T ++ D) := ⟨_, rfl⟩
     replace H : (some e3) = some r := rh
     have b9 := aE hy_
     clear hy_
     obtain rfl := Option.some.inj H
     go_enter Tryz.func24, Tryz.ntmps24
     try go_wp2_with (first | ((with_reducible refine gd 1 rfl ?_); refine bx 1 #[.string G, .int .i64 z, .int .i64 B, .int .i64 u, .int .i64 t] 52 rfl rfl ?_; intro q hg h8 hbox hb; have n_ := aC (bs hb) (aC hbox (aC (gz hg) (aE (gz hg)))); clear HB; obtain ⟨HB, d, Y, Z⟩ := n_; clear hb hbox hg; obtain ⟨e4, e5, e6, e7, e8, e9, f0, f1, f2, f3⟩ := yz d.out))
     have n_ := aC (vn d.out) (aE (vy HB.out))
     clear d HB
     obtain ⟨d, HB⟩ := n_
     refine st 17 (fun w' => w'.cell? ⟨q, 0, none⟩ = some (.string G) ∧ w'.cell? ⟨q, 1, none⟩ = some (.int .i64 z) ∧ w'.cell? ⟨q, 2, none⟩ = some (.int .i64 B) ∧ w'.cell? ⟨q, 3, none⟩ = some (.int .i64 u) ∧ w'.cell? ⟨q, 4, none⟩ = some (.int .i64 t)) [] (bv 17 0) ww.tab6 ww.qS ⟨jB d.out, jz d.out, jK d.out, kw d.out, kc4 d.out⟩ (fun hHeld HT_ HW_ => ?_)
     generalize h8.drew = j6 at d HB hHeld ⊢
     refine pu 1 18 (bv 17 2) HT_ rfl rfl ?_
     refine pu 2 19 (bv 17 6) HT_ rfl rfl ?_
     refine pu 4 21 (bv 17 22) HT_ rfl rfl ?_
     refine pu 8 25 (bv 17 278) HT_ rfl rfl ?_
     refine pu 9 26 (bv 17 790) HT_ rfl rfl ?_
     refine pu 11 28 (bv 17 2838) HT_ rfl rfl ?_
     refine tk 3 20 (bv 17 2846) HT_ HW_ hHeld rfl rfl (by rintro w' ⟨s0, s1, s2, s3, s4⟩; exact yl) ?_
     refine tk 5 22 (bv 17 2878) HT_ HW_ hHeld rfl rfl (by rintro w' ⟨s0, s1, s2, s3, s4⟩; exact yl) ?_
     refine tk 10 27 (bv 17 3902) HT_ HW_ hHeld rfl rfl (by rintro w' ⟨s0, s1, s2, s3, s4⟩; exact yl) ?_
     refine tk 12 29 (bv 17 7998) HT_ HW_ hHeld rfl rfl (by rintro w' ⟨s0, s1, s2, s3, s4⟩; exact yl) ?_
     refine pu 13 30 (bv 17 16190) HT_ rfl rfl ?_
     refine yA (i := 0) (N := some 17) (bv 17 16191) rfl rfl (xl HT_.out (by kernel_rfl)) (by decide) (fun K hK => ?_)
     refine gK Tryz.func40 rfl #[.string (⟨#[48, 48, 49]⟩ : ByteArray)] rfl rfl ?_
     with_reducible refine (xB.calls k (⟨#[48, 48, 49]⟩ : ByteArray) X _ h5.out).mono ?_
     rintro e j7 ⟨f4, rfl, s, hb⟩
     refine ⟨_, rfl, ?_⟩
     have n_ := aC (Kd.kD s bz) (aC (vp (bU d.out) hb) (aE (bs hb)))
     clear d HB
     obtain ⟨x, d, HB⟩ := n_
     (try clear hb)
     (try clear a6)
     (try clear hk)
     (try clear hi)
     (try clear s)
     refine hK.out _ _ ⟨jB d.out, jz d.out, jK d.out, kw d.out, kc4 d.out⟩ (fun hHeld => ?_)
     clear hK K
     refine nm (some 17) ?_
     refine yA (i := 6) (N := some 23) (bv 17 16255) rfl rfl (xl HT_.out (by kernel_rfl)) (by decide) (fun K hK => ?_)
     refine gK Tryz.func21 rfl #[.int .i64 B, .int .i64 t] rfl rfl ?_
     with_reducible refine (wZ.calls k B t M _ h6.out).mono ?_
     rintro e j8 ⟨i8, rfl, s, hb⟩
     refine ⟨_, rfl, ?_⟩
     have n_ := aC (Kd.U_elder' (by (with_reducible repeat (first | apply Kd.zJ | apply Kd.zH | apply Kd.z5)); exact x.out) (Kd.xc s) hb) (aC (Kd.vS (Kd.R_new' s (Kd.U_lt (by (with_reducible repeat (first | apply Kd.zJ | apply Kd.zH | apply Kd.z5)); exact x.out))) bz) (aC (vp (bU d.out) hb) (aE (bs hb))))
     clear x d HB
     obtain ⟨x, j, d, HB⟩ := n_
     (try clear hb)
     (try clear a6)
     (try clear hk)
     (try clear hi)
     (try clear s)
     obtain ⟨a3, a4, b0⟩ := Kd.vY j.out
     (first | subst b0 | (injection b0 with f1_ f2_ f3_; have f4_ := f1_.symm; have f5_ := f3_.symm; clear f1_ f2_ f3_; subst f4_; subst f5_))
     refine hK.out _ _ ⟨jB d.out, jz d.out, jK d.out, kw d.out, kc4 d.out⟩ (fun hHeld => ?_)
     clear hK K
     refine nm (some 23) ?_
     refine yA (i := 7) (N := some 24) (bv 17 16383) rfl rfl (xl HT_.out (by kernel_rfl)) (by decide) (fun K hK => ?_)
     refine Kd.jv (Kd.int .u8) (w0 := w) w.heap.size (by rfl) (.tmp 17) (.tmp 23) 22 5 (.int .u8 0) 1 rfl Tryz.underlying22 info5 rfl (by decide) (by omega) f4 X M _ _ _ (fun k_ => some k_ ≠ (.slice a3 M.length a4 : Value).ownBlock) (fun _ => False) rfl rfl ?aO ?aR (fun _ _ h => h) (fun _ h => h.elim) ?aF ?aB ?aS ?aL rfl ?_
     (case aR => repeat (first | exact (Kd.R_reads' j.out).2.2 | (with_reducible refine Kd.yi ?_ _) | (with_reducible refine Kd.yg ?_ _) | (with_reducible refine Kd.yr ?_)))
     (case aB => exact bl)
     (case aF => exact (fun k_ hk => Kd.fresh' (Kd.xW (rU j.out)) k_ hk))
     (case aO => exact (by (with_reducible repeat (first | apply Kd.zJ | apply Kd.zH | apply Kd.z5)); exact Kd.U_mono x.out (fun _ hk => hk.2)))
     (case aS => exact bz)
     (case aL => have := b6.out; omega)
     intro f5 j9 ho hb hg hat
     rw [← b7.out] at ho
     have n_ := aC (xz (bU d.out) hg (Kd.U_ne x.out d.out (by decide))) (aC (Kd.yG (ok := (fun _ => True)) (rU j.out) hg hat) (aC hb (aE ho)))
     clear d j HB x
     obtain ⟨d, j, HB, y⟩ := n_
     clear ho hb hg hat
     refine hK.out _ _ ⟨jB d.out, jz d.out, jK d.out, kw d.out, kc4 d.out⟩ (fun hHeld => ?_)
     clear hK K
     refine nm (some 24) ?_
     refine yA (i := 14) (N := some 31) (bv 17 32767) rfl rfl (xl HT_.out (by kernel_rfl)) (by decide) (fun K hK => ?_)
     refine gK Tryz.func21 rfl #[.int .i64 u, .int .i64 (wrap64 (1 - t))] rfl rfl ?_
     with_reducible refine (wZ.calls k u (wrap64 (1 - t)) D _ h7.out).mono ?_
     rintro e k0 ⟨i9, rfl, s, hb⟩
     refine ⟨_, rfl, ?_⟩
     have n_ := aC (Kd.R_elder' (rU j.out) (Kd.xc s) hb) (aC (Kd.U_elder' (by (with_reducible repeat (first | apply Kd.zJ | apply Kd.zH | apply Kd.z5)); exact y.out) (Kd.xc s) hb) (aC (Kd.vS (Kd.R_new' (Kd.R_new' s (Kd.xW (rU j.out))) (Kd.U_lt (by (with_reducible repeat (first | apply Kd.zJ | apply Kd.zH | apply Kd.z5)); exact y.out))) bz) (aC (vp (bU d.out) hb) (aE (bs hb)))))
     clear j y d HB
     obtain ⟨j, y, E, d, HB⟩ := n_
     (try clear hb)
     (try clear a6)
     (try clear hk)
     (try clear hi)
     (try clear s)
     obtain ⟨b1, b2, b3⟩ := Kd.vY E.out
     (first | subst b3 | (injection b3 with f1_ f2_ f3_; have f4_ := f1_.symm; have f5_ := f3_.symm; clear f1_ f2_ f3_; subst f4_; subst f5_))
     refine hK.out _ _ ⟨jB d.out, jz d.out, jK d.out, kw d.out, kc4 d.out⟩ (fun hHeld => ?_)
     clear hK K
     refine nm (some 31) ?_
     refine yA (i := 15) (N := some 32) (bv 17 65535) rfl rfl (xl HT_.out (by kernel_rfl)) (by decide) (fun K hK => ?_)
     refine Kd.jv (Kd.int .u8) (w0 := w) w.heap.size (by rfl) (.tmp 24) (.tmp 31) 22 5 (.int .u8 0) 1 rfl Tryz.underlying22 info5 rfl (by decide) (by omega) f5 T D _ _ _ (fun k_ => some k_ ≠ (.slice a3 M.length a4 : Value).ownBlock ∧ some k_ ≠ (.slice b1 D.length b2 : Value).ownBlock) (fun _ => False) rfl rfl ?aO ?aR (fun _ _ h => h) (fun _ h => h.elim) ?aF ?aB ?aS ?aL rfl ?_
     (case aR => repeat (first | exact (Kd.R_reads' E.out).2.2 | (with_reducible refine Kd.yi ?_ _) | (with_reducible refine Kd.yg ?_ _) | (with_reducible refine Kd.yr ?_)))
     (case aB => exact bl)
     (case aF => exact (fun k_ hk => ⟨Kd.fresh' (Kd.xW (rU j.out)) k_ hk, Kd.fresh' (Kd.xW (rU E.out)) k_ hk⟩))
     (case aO => exact (by (with_reducible repeat (first | apply Kd.zJ | apply Kd.zH | apply Kd.z5)); exact y.out))
     (case aS => exact bz)
     (case aL => have := b8.out; omega)
     intro j2 k1 ho hb hg hat
     rw [← b9.out] at ho
     have n_ := aC (xz (bU d.out) hg (Kd.U_ne y.out d.out (by decide))) (aC (Kd.yG (ok := (fun k_ => some k_ ≠ (.slice b1 D.length b2 : Value).ownBlock)) (rU (Kd.vU j.out (fun _ hk => ⟨hk.2, hk.1.2⟩))) hg hat) (aC (Kd.yG (ok := (fun k_ => some k_ ≠ (.slice a3 M.length a4 : Value).ownBlock)) (rU (Kd.vU E.out (fun _ hk => ⟨hk.1.2, hk.2⟩))) hg hat) (aC hb (aE ho))))
     clear d j E HB y
     obtain ⟨d, j, E, HB, c0⟩ := n_
     clear ho hb hg hat
     refine hK.out _ _ ⟨jB d.out, jz d.out, jK d.out, kw d.out, kc4 d.out⟩ (fun hHeld => ?_)
     clear hK K
     refine nm (some 32) ?_
     refine pu 16 2 (bv 17 131071) HT_ rfl rfl ?_
     refine zd (xZ HT_.out (by kernel_rfl)) ?_
     try go_wp2
     go_ret
     exact ⟨_, re, by (with_reducible repeat (first | apply Kd.zJ | apply Kd.zH | apply Kd.z5)); exact Kd.U_mono c0.out (fun _ hk => trivial), bl⟩
    ·rw [if_neg a8] at H
     exact nB H
   ·rw [if_neg a7] at H
    exact nB H
mutual
def xt.l0 : Nat → List Int → List Int → List (List Int) → Int → Int → Option (List Int × Int)
 | 0, _, _, _, _, _ => none
 | k + 1, x4, x5, j, r, d => if d < r then (if 0 ≤ d then (if d < (j.length : Int) then ((vL.f k x5 (zc j d)).bind fun q => (xt.l1 k x4 (zc j d) j r d q (q.length : Int) 0)) else (none)) else (none)) else ((wS.f k x4).bind fun e => (some (e.1, e.2)))
def xt.l1 : Nat → List Int → List Int → List (List Int) → Int → Int → List (zq) → Int → Int → Option (List Int × Int)
 | 0, _, _, _, _, _, _, _, _ => none
 | k + 1, x4, x7, q, r, s, e, t, d => if d < t then (if 0 ≤ d then (if d < (e.length : Int) then ((ww.f k ((wj e d).f0) ((wj e d).f1) ((wj e d).f2.f0) ((wj e d).f2.f1) ((wj e d).f3)).bind fun j => (if x4.length + j.length < 140737488355328 then (xt.l1 k (x4 ++ j) x7 q r s e t (wrap64 (d + 1))) else (none))) else (none)) else (none)) else (xt.l0 k x4 x7 q r (wrap64 (s + 1)))
end
def xt.f (k : Nat) (d : Int) (e : Int) (j : List Int) : Option (List Int × Int) := (wx.f k d e j).bind fun r => (if r = true then (if 0 ≤ d then (if (d : Int).toNat ≤ 281474976710656 then ((xg.f k d e j).bind fun q => (xt.l0 k ([] : List Int) (List.replicate (d : Int).toNat 0) q (q.length : Int) 0)) else (none)) else (none)) else (some (([] : List Int), 30)))
theorem xt.wt : ∀ k, (∀ y0 y1 y2 y3 y4, vK (xt.l0 k y0 y1 y2 y3 y4) (xt.l0 (k + 1) y0 y1 y2 y3 y4)) ∧ (∀ y0 y1 y2 y3 y4 y5 y6 y7, vK (xt.l1 k y0 y1 y2 y3 y4 y5 y6 y7) (xt.l1 (k + 1) y0 y1 y2 y3 y4 y5 y6 y7))
 | 0 => ⟨fun _ _ _ _ _ r h => by simp [xt.l0] at h, fun _ _ _ _ _ _ _ _ r h => by simp [xt.l1] at h⟩
 | k + 1 => by
  obtain ⟨ih0, ih1⟩ := xt.wt k
  refine ⟨?_, ?_⟩
  ·intro y0 y1 y2 y3 y4
   unfold xt.l0
   repeat' first
   | (with_reducible exact ih0 _ _ _ _ _)
   | (with_reducible exact ih1 _ _ _ _ _ _ _ _)
   | (with_reducible exact wx.mono _ _ _ _)
   | (with_reducible exact wS.mono _ _)
   | (with_reducible exact xg.mono _ _ _ _)
   | (with_reducible exact ww.mono _ _ _ _ _ _)
   | (with_reducible exact vL.mono _ _ _)
   | (with_reducible first | exact vK.refl _ | exact vK.none _ | apply vK.ite | apply vK.bind | intro)
  ·intro y0 y1 y2 y3 y4 y5 y6 y7
   unfold xt.l1
   repeat' first
   | (with_reducible exact ih0 _ _ _ _ _)
   | (with_reducible exact ih1 _ _ _ _ _ _ _ _)
   | (with_reducible exact wx.mono _ _ _ _)
   | (with_reducible exact wS.mono _ _)
   | (with_reducible exact xg.mono _ _ _ _)
   | (with_reducible exact ww.mono _ _ _ _ _ _)
   | (with_reducible exact vL.mono _ _ _)
   | (with_reducible first | exact vK.refl _ | exact vK.none _ | apply vK.ite | apply vK.bind | intro)
theorem xt.mono : ∀ a0 a1 a2 k, vK (xt.f k a0 a1 a2) (xt.f (k + 1) a0 a1 a2) := by
 intro a0 a1 a2 k
 obtain ⟨ih0, ih1⟩ := xt.wt k
 unfold xt.f
 repeat' first
   | (with_reducible exact ih0 _ _ _ _ _)
   | (with_reducible exact ih1 _ _ _ _ _ _ _ _)
   | (with_reducible exact wx.mono _ _ _ _)
   | (with_reducible exact wS.mono _ _)
   | (with_reducible exact xg.mono _ _ _ _)
   | (with_reducible exact ww.mono _ _ _ _ _ _)
   | (with_reducible exact vL.mono _ _ _)
   | (with_reducible first | exact vK.refl _ | exact vK.none _ | apply vK.ite | apply vK.bind | intro)
theorem xt.calls (k : Nat) (y : Int) (G : Int) (O : Option Addr) (T : Nat) (B : List Int) (r1 : List Int) (r2 : Int) (w : World) (hr0_2 : Kd.C (Kd.int .u8) w O B.length B) (b8 : B.length ≤ T) (h : xt.f k y G B = some (r1, r2)) :
  Calls Tryz.prog 7 #[.agg #[.int .i64 y, .int .i64 G, .slice O B.length T]] w fun e w' => ∃ f7 : Value, e = .returned (.tuple #[f7, .int .i64 r2]) ∧ Kd.R (Kd.int .u8) 5 w' w.heap.size (fun _ => True) f7 r1 ∧ Below w.heap.size w w' := by
 have hu24 := Tryz.underlying24
 have hu52 := Tryz.underlying52
 have a9 := aE hr0_2
 have b0 := aE b8
 clear hr0_2 b8
 have HB := bR w
 have H := h
 unfold xt.f at H
 clear h
 obtain ⟨f8, A2, H⟩ := oB H
 try dsimp only at H
 by_cases c3 : f8 = true
 ·subst c3
  rw [if_pos rfl] at H
  by_cases c4 : 0 ≤ y
  ·rw [if_pos c4] at H
   have n7 := eq_true c4
   have n8 := decide_eq_true c4
   clear c4
   by_cases c5 : (y : Int).toNat ≤ 281474976710656
   ·rw [if_pos c5] at H
    have n9 := eq_true c5
    have o0 := decide_eq_true c5
    clear c5
    obtain ⟨e6, hy_⟩ : ∃ y_ : List Int, y_ = (List.replicate (y : Int).toNat 0) := ⟨_, rfl⟩
    replace H : ((xg.f k y G B).bind fun u => (xt.l0 k ([] : List Int) e6 u (u.length : Int) 0)) = some (r1, r2) := rh
    have b9 := aE hy_
    clear hy_
    obtain ⟨u, A6, H⟩ := oB H
    try dsimp only at H
    have H' := aE H
    clear H
    go_enter Tryz.func7, Tryz.ntmps7
    go_wp2_with (first | ((with_reducible refine gd 1 rfl ?_); refine bx 1 #[.int .i64 y, .int .i64 G, .slice O B.length T] 24 rfl rfl ?_; intro D hg w7 hbox hb; have n_ := aC (bs hb) (aC hbox (aC (gz hg) (aE (gz hg)))); clear HB; obtain ⟨HB, q, c0, e8⟩ := n_; clear hb hbox hg; obtain ⟨l6, l7, l8, l9, m0, m1⟩ := yk q.out) | ((with_reducible refine gf 18 rfl ?_); refine gL (some 11) rfl rfl Tryz.func18 rfl #[.agg #[.int .i64 y, .int .i64 G, .slice O B.length T]] rfl ?_; (with_reducible refine (wx.calls k y G _ _ B true _ ?side1 ?side2 A2.out).mono ?_); (case side1 => exact cU (Kd.wz a9.out HB.out)); (case side2 => exact b0.out); rintro e w9 ⟨rfl, hb⟩; refine ⟨_, rfl, ?_⟩; have n_ := aC (vp (bU q.out) hb) (aE (bs hb)); clear q HB; obtain ⟨q, HB⟩ := n_; obtain ⟨f9, g0, g1, g2, g3, g4⟩ := yk q.out) | ((with_reducible refine gd 15 rfl ?_); refine Kd.jN (Kd.int .u8) _ 5 rfl (N := 15) rfl 22 _ _ rfl y rfl rfl Tryz.underlying22 (.int .u8 0) 1 info5 rfl (by decide) (by omega) 0 (ok := fun _ => True) (okp := fun _ => True) rfl (fun _ hk => hk) trivial (dt) (Nat.le_trans (Nat.mul_le_mul_right _ (dt : y.toNat ≤ 281474976710656)) (by omega)) (Below.refl _ _) (Nat.le_refl _) ?_; intro g5 o6 a4 hb hg_ hnew_; clear hg_ hnew_; (first | rw [← b9.out] at a4 | (simp only [Int.reduceToNat] at a4; rw [← b9.out] at a4)); have n_ := aC (Kd.vS a4 bz) (aC (vp (bU q.out) hb) (aE (bs hb))); clear q HB; obtain ⟨Z, q, HB⟩ := n_; clear hb a4; obtain ⟨g6, g7, g8, g9, h3, h4⟩ := yk q.out) | ((with_reducible refine gf 19 rfl ?_); refine gL (some 17) rfl rfl Tryz.func19 rfl #[.agg #[.int .i64 y, .int .i64 G, .slice O B.length T]] rfl ?_; (with_reducible refine (xg.calls k y G (fun k_ => k_ < w.heap.size) _ _ B u _ ?side1 A6.out).mono ?_); (case side1 => exact Kd.V_mk b0.out (Kd.kr (Kd.C_F (Kd.yH .u8) a9.out) bl)); rintro e o7 ⟨o1, rfl, M, hb⟩; refine ⟨_, rfl, ?_⟩; have n_ := aC (Kd.wg (rU Z.out) hb) (aC (Kd.N_lower (Kd.zG (ok' := fun k_ => some k_ ≠ (g5 : Value).ownBlock ∧ k_ ≠ D) M (fun k_ hk_ => ⟨Or.elim hk_ (fun hs_ => fun e_ => Nat.not_le.2 hs_ (Kd.xc Z.out k_ e_.symm)) (fun hn_ => (Kd.fresh' (Kd.xW (rU Z.out)) k_ hn_)), Or.elim hk_ (fun hs_ => fun e_ => Nat.not_le.2 hs_ (by rw [e_]; exact c0.out)) (fun hn_ => (Kd.kz (bU q.out) k_ hn_))⟩)) bz) (aC (vp (bU q.out) hb) (aE (bs hb)))); clear Z q HB; obtain ⟨Z, c1, q, HB⟩ := n_; obtain ⟨h5, b3, h6⟩ := Kd.N_slice c1.out; subst h6))
    go_loopg [4, 5, 19] k (fun kq v4 v5 m2 w' => ∃ (a3 : List Int) (a5 : List Int) (t : Int), m2 = .int .i64 t ∧ Aside0 (xt.l0 kq a3 a5 u (u.length : Int) t = some (r1, r2)) ∧ Aside0 (kq ≤ k) ∧ Aside0 (Kd.R (Kd.int .u8) 5 w' w.heap.size (fun _ => True) v4 a3) ∧ Aside0 (Kd.V (Kd.int .u8) 5 w' w.heap.size (fun k_ => some k_ ≠ (v4 : Value).ownBlock ∧ k_ ≠ D) v5 a5) ∧ Aside0 (Kd.N (Kd.slice 5 (Kd.int .u8)) 22 w' w.heap.size (fun k_ => some k_ ≠ (v4 : Value).ownBlock ∧ k_ ≠ D) (.slice h5 u.length b3) u) ∧ Aside0 (w'.heap[D]? = some (.cells #[.int .i64 y, .int .i64 G, (.slice O B.length T)] 24 (0, 0))) ∧ Aside0 (Below w.heap.size w w'))
    case atStart => exact ⟨(([] : List Int)), (e6), (0), rq, H', ⟨Nat.le_refl _⟩, ⟨by first | exact Kd.yu _ _ _ _ _ | exact Kd.yR _ _ _ _ _ | exact Kd.yS _ _ _ _ _ | exact Kd.yP _ _ _ _ _ | exact Kd.yV _ _ _ _ _⟩, ⟨Kd.R_V (rU (Kd.vU (Kd.xH Z.out q.out (by decide)) (fun _ hk => ⟨(by simp [Value.ownBlock]), hk.2⟩)))⟩, ⟨by (with_reducible repeat (first | apply Kd.yZ | apply Kd.yX | apply Kd.zv)); exact Kd.zG c1.out (fun _ hk => ⟨(by simp [Value.ownBlock]), hk.2⟩)⟩, ⟨bU q.out⟩, ⟨bl⟩⟩
    case round =>
     clear H'
     obtain ⟨a3, a5, t, rfl, HA, d9, x, X, s, q, HB⟩ := hrel
     cases gk with
     | zero => exact absurd HA.out (by simp [xt.l0])
     | succ k1 =>
      have H := HA.out
      clear HA
      simp only [xt.l0] at H
      rcases iL H with H1 | H1 <;> clear H <;> obtain ⟨H, m3⟩ := H1
      ·by_cases e0 : 0 ≤ t
       ·rw [if_pos e0] at H
        have m4 := decide_eq_true e0
        clear e0
        by_cases e1 : t < (u.length : Int)
        ·rw [if_pos e1] at H
         have m5 := decide_eq_true e1
         clear e1
         obtain ⟨j, m6, H⟩ := oB H
         try dsimp only at H
         have H' := aE H
         clear H
         have b4 : 0 ≤ (t : Int) := dt
         have b5 : t < (u.length : Int) := dt
         obtain ⟨b1, b6, b7, h7, d0, a6, a7⟩ := at_L8 (Kd.N_reads' s.out).2.2 t b4 b5
         cases h7
         obtain ⟨ce365, hce365, hMe365, hcc365⟩ := Kd.N_get s.out [] t b4 (by first | exact b5 | exact dt | (have e_ := (Kd.N_reads' s.out).1; omega))
         obtain ⟨ua365_0, uc365_0, rfl, ul365_0, ge365_0⟩ := Kd.kt hMe365
         have Y := hcc365 0 _ rfl
         rw [Nat.add_zero, show ((Kd.slice 5 (Kd.int .u8))).sz = 1 from rfl, Nat.mul_one] at Y
         replace Y := Option.some.inj (Y.symm.trans d0)
         injection Y with hva_ hvn_ hvc_
         rw [hva_] at ge365_0
         rw [hvc_] at ul365_0
         have HL365_0 := aE (show Kd.V (Kd.int .u8) 5 _ w.heap.size _ _ (zc u t) from Kd.V_mk ul365_0 ge365_0)
         clear hva_ hvn_ hvc_ ge365_0 ul365_0
         clear hcc365 hce365
         have J := aE a7
         have d1 := aE a6
         clear a7 a6
         replace b4 := eq_true b4
         replace b5 := eq_true b5
         obtain ⟨h8, h9, i0⟩ := Kd.V_slice X.out
         subst i0
         go_wp2_with (first | ((with_reducible refine gf 23 rfl ?_); refine gL (some 25) rfl rfl Tryz.func23 rfl #[.slice h8 a5.length h9, .slice b6 (zc u t).length b7] rfl ?_; (with_reducible refine (vL.calls k1 _ _ a5 _ _ (zc u t) j _ ?side1 ?side2 ?side3 ?side4 m6.out).mono ?_); (case side1 => exact cU (Kd.V_reads' X.out).2.2); (case side2 => exact (Kd.V_reads' X.out).2.1); (case side3 => repeat (first | exact (by repeat (first | (with_reducible exact J.out) | (with_reducible refine Kd.yi ?_ _) | (with_reducible refine Kd.yg ?_ _) | (with_reducible refine Kd.yr ?_) | exact J.out)) | (with_reducible refine Kd.yi ?_ _) | (with_reducible refine Kd.yg ?_ _) | (with_reducible refine Kd.yr ?_))); (case side4 => exact d1.out); rintro e o8 ⟨o2, rfl, M, hb⟩; refine ⟨_, rfl, ?_⟩; have n_ := aC (Kd.wg (rU x.out) hb) (aC (Kd.V_elder' (by (with_reducible repeat (first | apply Kd.zC | apply Kd.zD | apply Kd.zS)); exact X.out) (Kd.xc M) hb) (aC (Kd.N_elder' (by (with_reducible repeat (first | apply Kd.yZ | apply Kd.yX | apply Kd.zv)); exact s.out) (Kd.xc M) hb) (aC (Kd.V_elder' (by (with_reducible repeat (first | apply Kd.zC | apply Kd.zD | apply Kd.zS)); exact HL365_0.out) (Kd.xc M) hb) (aC (Kd.vS M bz) (aC (vp (bU q.out) hb) (aC (Kd.wz (by repeat (first | (with_reducible exact J.out) | (with_reducible refine Kd.yi ?_ _) | (with_reducible refine Kd.yg ?_ _) | (with_reducible refine Kd.yr ?_) | exact J.out)) hb) (aE (bs hb)))))))); clear x X s HL365_0 q J HB; obtain ⟨x, X, s, HL365_0, d2, q, J, HB⟩ := n_; obtain ⟨d3, a8, i1⟩ := Kd.vY d2.out; subst i1))
         go_loopg [4, 27] k1 (fun kq v4 m7 w' => ∃ (a1 : List Int) (d : Int), m7 = .int .i64 d ∧ Aside0 (xt.l1 kq a1 (zc u t) u (u.length : Int) t j (j.length : Int) d = some (r1, r2)) ∧ Aside0 (kq ≤ k1) ∧ Aside0 (Kd.R (Kd.int .u8) 5 w' w.heap.size (fun _ => True) v4 a1) ∧ Aside0 (Kd.V (Kd.int .u8) 5 w' w.heap.size (fun k_ => some k_ ≠ (v4 : Value).ownBlock ∧ some k_ ≠ ((.slice (some b1) u.length b3) : Value).ownBlock ∧ some k_ ≠ ((.slice d3 j.length a8) : Value).ownBlock ∧ k_ ≠ D) (.slice b6 (zc u t).length b7) (zc u t)) ∧ Aside0 (Kd.N (Kd.slice 5 (Kd.int .u8)) 22 w' w.heap.size (fun k_ => some k_ ≠ (v4 : Value).ownBlock ∧ some k_ ≠ ((.slice d3 j.length a8) : Value).ownBlock ∧ k_ ≠ D) (.slice (some b1) u.length b3) u) ∧ Aside0 (Kd.R k52 52 w' w.heap.size (fun _ => True) (.slice d3 j.length a8) j) ∧ Aside0 (w'.heap[D]? = some (.cells #[.int .i64 y, .int .i64 G, (.slice O B.length T)] 24 (0, 0))) ∧ Aside0 (Below w.heap.size w w'))
         case atStart => exact ⟨(a3), (0), rq, H', ⟨Nat.le_refl _⟩, ⟨rU x.out⟩, ⟨by (with_reducible repeat (first | apply Kd.zC | apply Kd.zD | apply Kd.zS)); exact Kd.z8 HL365_0.out (fun _ hk => ⟨hk.1.1.1, ⟨hk.1.2, ⟨hk.2, hk.1.1.2⟩⟩⟩)⟩, ⟨by (with_reducible repeat (first | apply Kd.yZ | apply Kd.yX | apply Kd.zv)); exact Kd.zG s.out (fun _ hk => ⟨hk.1.1, ⟨hk.2, hk.1.2⟩⟩)⟩, ⟨rU d2.out⟩, ⟨bU q.out⟩, ⟨bl⟩⟩
         case round =>
          clear H'
          obtain ⟨a1, d, rfl, HA, e2, x, L, s, E, q, HB⟩ := hrel
          cases gk with
          | zero => exact absurd HA.out (by simp [xt.l1])
          | succ k2 =>
           have H := HA.out
           clear HA
           simp only [xt.l1] at H
           rcases iL H with H1 | H1 <;> clear H <;> obtain ⟨H, m8⟩ := H1
           ·by_cases e3 : 0 ≤ d
            ·rw [if_pos e3] at H
             have m9 := decide_eq_true e3
             clear e3
             by_cases e4 : d < (j.length : Int)
             ·rw [if_pos e4] at H
              have n0 := decide_eq_true e4
              clear e4
              obtain ⟨a2, n1, H⟩ := oB H
              try dsimp only at H
              by_cases e5 : a1.length + a2.length < 140737488355328
              ·rw [if_pos e5] at H
               have e9 := aE e5
               clear e5
               obtain ⟨e7, hy_⟩ : ∃ y_ : List Int, y_ = (a1 ++ a2) := ⟨_, rfl⟩
               replace H : (xt.l1 k2 e7 (zc u t) u (u.length : Int) t j (j.length : Int) (wrap64 (d + 1))) = some (r1, r2) := rh
               have f4 := aE hy_
               clear hy_
               have H' := aE H
               clear H
               have d4 : 0 ≤ (d : Int) := dt
               have d5 : d < (j.length : Int) := dt
               obtain ⟨d6, i2, i3, i4, i5, i6, i7⟩ := at_T52 (Kd.R_reads' E.out).2.2 d d4 d5
               cases i2
               replace d4 := eq_true d4
               replace d5 := eq_true d5
               go_wp2_with (first | ((with_reducible refine gd 9 rfl ?_); refine bx 9 #[.string (⟨#[]⟩ : ByteArray), .int .i64 0, .int .i64 0, .int .i64 0, .int .i64 0] 52 rfl rfl ?_; intro r hg o9 hbox hb; have n_ := aC (Kd.wg (rU x.out) hb) (aC (Kd.V_below (Kd.V_elderB (by (with_reducible repeat (first | apply Kd.zC | apply Kd.zD | apply Kd.zS)); exact L.out) r (Nat.le_of_eq hg.symm)) hb) (aC (Kd.kQ (Kd.N_elderB (by (with_reducible repeat (first | apply Kd.yZ | apply Kd.yX | apply Kd.zv)); exact s.out) r (Nat.le_of_eq hg.symm)) hb) (aC (Kd.wg (Kd.kd (rU E.out) r (Nat.le_of_eq hg.symm)) hb) (aC (vp (bU q.out) hb) (aC (bs hb) (aC hbox (aC (gz hg) (aC (gz hg) (aC (gn hg (bU q.out)) (aE (gm hg (bU q.out)))))))))))); clear x L s E q HB; obtain ⟨x, L, s, E, q, HB, I, n2, n3, z, b2⟩ := n_; clear hb hbox hg; have n4 := b2.out; have n5 := z.out; obtain ⟨i8, i9, j2, j3, j4, j5, j6, j7, j8, j9⟩ := yz I.out) | ((with_reducible refine gf 24 rfl ?_); refine gL (some 33) rfl rfl Tryz.func24 rfl #[.agg #[.string ((wj j d).f0), .int .i64 ((wj j d).f1), .int .i64 ((wj j d).f2.f0), .int .i64 ((wj j d).f2.f1), .int .i64 ((wj j d).f3)]] rfl ?_; (with_reducible refine (ww.calls k2 ((wj j d).f0) ((wj j d).f1) ((wj j d).f2.f0) ((wj j d).f2.f1) ((wj j d).f3) a2 _ n1.out).mono ?_); rintro e p0 ⟨o3, rfl, M, hb⟩; refine ⟨_, rfl, ?_⟩; have n_ := aC (Kd.R_elder' (rU (Kd.vU (Kd.wK (p := ⟨r, 4, none⟩) (Kd.wK (p := ⟨r, 3, none⟩) (Kd.wK (p := ⟨r, 2, none⟩) (Kd.wK (p := ⟨r, 1, none⟩) (Kd.wK (p := ⟨r, 0, none⟩) (Kd.xH x.out I.out (by decide)) (fun _ hk => hk.2) (.string ((wj j d).f0))) (fun _ hk => hk.2) (.int .i64 ((wj j d).f1))) (fun _ hk => hk.2) (.int .i64 ((wj j d).f2.f0))) (fun _ hk => hk.2) (.int .i64 ((wj j d).f2.f1))) (fun _ hk => hk.2) (.int .i64 ((wj j d).f3))) (fun _ h_ => h_.1))) (Kd.Vi M) hb) (aC (Kd.V_elder' (by (with_reducible repeat (first | apply Kd.zC | apply Kd.zD | apply Kd.zS)); exact (Kd.z8 (Kd.V_far (p := ⟨r, 4, none⟩) (Kd.V_far (p := ⟨r, 3, none⟩) (Kd.V_far (p := ⟨r, 2, none⟩) (Kd.V_far (p := ⟨r, 1, none⟩) (Kd.V_far (p := ⟨r, 0, none⟩) (Kd.z8 L.out (fun k_ hk => (⟨hk, hk.2⟩ : _ ∧ k_ ≠ r))) (fun _ hk => hk.2) (.string ((wj j d).f0))) (fun _ hk => hk.2) (.int .i64 ((wj j d).f1))) (fun _ hk => hk.2) (.int .i64 ((wj j d).f2.f0))) (fun _ hk => hk.2) (.int .i64 ((wj j d).f2.f1))) (fun _ hk => hk.2) (.int .i64 ((wj j d).f3))) (fun _ h_ => h_.1))) (Kd.Vi M) hb) (aC (Kd.N_elder' (by (with_reducible repeat (first | apply Kd.yZ | apply Kd.yX | apply Kd.zv)); exact (Kd.zG (Kd.N_far (p := ⟨r, 4, none⟩) (Kd.N_far (p := ⟨r, 3, none⟩) (Kd.N_far (p := ⟨r, 2, none⟩) (Kd.N_far (p := ⟨r, 1, none⟩) (Kd.N_far (p := ⟨r, 0, none⟩) (Kd.zG s.out (fun k_ hk => (⟨hk, hk.2⟩ : _ ∧ k_ ≠ r))) (fun _ hk => hk.2) (.string ((wj j d).f0))) (fun _ hk => hk.2) (.int .i64 ((wj j d).f1))) (fun _ hk => hk.2) (.int .i64 ((wj j d).f2.f0))) (fun _ hk => hk.2) (.int .i64 ((wj j d).f2.f1))) (fun _ hk => hk.2) (.int .i64 ((wj j d).f3))) (fun _ h_ => h_.1))) (Kd.Vi M) hb) (aC (Kd.wg (rU (Kd.vU (Kd.wK (p := ⟨r, 4, none⟩) (Kd.wK (p := ⟨r, 3, none⟩) (Kd.wK (p := ⟨r, 2, none⟩) (Kd.wK (p := ⟨r, 1, none⟩) (Kd.wK (p := ⟨r, 0, none⟩) (Kd.vU E.out (fun k_ hk => (⟨hk, hk.2⟩ : _ ∧ k_ ≠ r))) (fun _ hk => hk.2) (.string ((wj j d).f0))) (fun _ hk => hk.2) (.int .i64 ((wj j d).f1))) (fun _ hk => hk.2) (.int .i64 ((wj j d).f2.f0))) (fun _ hk => hk.2) (.int .i64 ((wj j d).f2.f1))) (fun _ hk => hk.2) (.int .i64 ((wj j d).f3))) (fun _ h_ => h_.1))) hb) (aC (Kd.kD (Kd.U_new' M (Kd.xW (rU (Kd.vU (Kd.wK (p := ⟨r, 4, none⟩) (Kd.wK (p := ⟨r, 3, none⟩) (Kd.wK (p := ⟨r, 2, none⟩) (Kd.wK (p := ⟨r, 1, none⟩) (Kd.wK (p := ⟨r, 0, none⟩) (Kd.xH x.out I.out (by decide)) (fun _ hk => hk.2) (.string ((wj j d).f0))) (fun _ hk => hk.2) (.int .i64 ((wj j d).f1))) (fun _ hk => hk.2) (.int .i64 ((wj j d).f2.f0))) (fun _ hk => hk.2) (.int .i64 ((wj j d).f2.f1))) (fun _ hk => hk.2) (.int .i64 ((wj j d).f3))) (fun _ h_ => h_.1))))) bz) (aC (vp (g := D) (o := .cells #[.int .i64 y, .int .i64 G, .slice O B.length T] 24 (0, 0)) (by (with_reducible repeat first | apply vm | apply vn | apply vl); refine wk ?_ z.out _; (with_reducible repeat first | apply vm | apply vn | apply vl); refine wk ?_ z.out _; (with_reducible repeat first | apply vm | apply vn | apply vl); refine wk ?_ z.out _; (with_reducible repeat first | apply vm | apply vn | apply vl); refine wk ?_ z.out _; (with_reducible repeat first | apply vm | apply vn | apply vl); refine wk ?_ z.out _; (with_reducible repeat first | apply vm | apply vn | apply vl); exact q.out) hb) (aC (vp (g := r) (o := .cells #[.string ((wj j d).f0), .int .i64 ((wj j d).f1), .int .i64 ((wj j d).f2.f0), .int .i64 ((wj j d).f2.f1), .int .i64 ((wj j d).f3)] 52 (0, 0)) (by (with_reducible repeat first | apply vm | apply vn | apply vl); refine vt (cs := #[.string ((wj j d).f0), .int .i64 ((wj j d).f1), .int .i64 ((wj j d).f2.f0), .int .i64 ((wj j d).f2.f1), .int .i64 0]) ?_ 4 _ rfl; (with_reducible repeat first | apply vm | apply vn | apply vl); refine vt (cs := #[.string ((wj j d).f0), .int .i64 ((wj j d).f1), .int .i64 ((wj j d).f2.f0), .int .i64 0, .int .i64 0]) ?_ 3 _ rfl; (with_reducible repeat first | apply vm | apply vn | apply vl); refine vt (cs := #[.string ((wj j d).f0), .int .i64 ((wj j d).f1), .int .i64 0, .int .i64 0, .int .i64 0]) ?_ 2 _ rfl; (with_reducible repeat first | apply vm | apply vn | apply vl); refine vt (cs := #[.string ((wj j d).f0), .int .i64 0, .int .i64 0, .int .i64 0, .int .i64 0]) ?_ 1 _ rfl; (with_reducible repeat first | apply vm | apply vn | apply vl); refine vt (cs := #[.string (⟨#[]⟩ : ByteArray), .int .i64 0, .int .i64 0, .int .i64 0, .int .i64 0]) ?_ 0 _ rfl; (with_reducible repeat first | apply vm | apply vn | apply vl); exact I.out) hb) (aE (bs hb)))))))); clear x L s E q I HB; obtain ⟨x, L, s, E, a0, q, I, HB⟩ := n_; obtain ⟨d7, d8, k0⟩ := Kd.U_slice a0.out; subst k0) | ((with_reducible refine wU (b := .append) (xs := #[.tmp 31, .tmp 33]) rfl ?_); at_builtin; refine Kd.xO (Kd.int .u8) (w0 := w) w.heap.size rfl (.tmp 31) (.tmp 33) 22 5 (.int .u8 0) 1 rfl Tryz.underlying22 info5 rfl (by decide) (by omega) u4 a1 a2 _ _ _ (fun k_ => some k_ ≠ (.slice d7 a2.length d8 : Value).ownBlock) (fun _ => False) rfl rfl ?aO ?aR (fun _ _ h => h) (fun _ h => h.elim) ?aF ?aB ?aS ?aL ?_; (case aR => repeat (first | exact (Kd.U_reads' a0.out).2.2 | (with_reducible refine Kd.yi ?_ _) | (with_reducible refine Kd.yg ?_ _) | (with_reducible refine Kd.yr ?_))); (case aB => exact bl); (case aF => exact (fun k_ hk => Kd.fresh' (Kd.U_lt (by (with_reducible repeat (first | apply Kd.zJ | apply Kd.zH | apply Kd.z5)); exact a0.out)) k_ hk)); (case aO => exact (rU (Kd.vU x.out (fun _ hk => hk.2)))); (case aS => exact bz); (case aL => have := e9.out; omega); intro o4 p1 ho hb hg hat; rw [← f4.out] at ho; have n_ := aC (Kd.Vl (ok := (fun k_ => some k_ ≠ (.slice (some b1) u.length b3 : Value).ownBlock ∧ some k_ ≠ (.slice (some d6) j.length a8 : Value).ownBlock ∧ some k_ ≠ (.slice d7 a2.length d8 : Value).ownBlock ∧ k_ ≠ D ∧ k_ ≠ r)) (by (with_reducible repeat (first | apply Kd.zC | apply Kd.zD | apply Kd.zS)); exact Kd.z8 L.out (fun _ hk => ⟨⟨hk.1.1.2.1, ⟨hk.1.1.2.2.1, ⟨hk.2, ⟨hk.1.1.2.2.2, hk.1.2⟩⟩⟩⟩, hk.1.1.1⟩)) hg hat) (aC (Kd.N_afterv (ok := (fun k_ => some k_ ≠ (.slice (some d6) j.length a8 : Value).ownBlock ∧ some k_ ≠ (.slice d7 a2.length d8 : Value).ownBlock ∧ k_ ≠ D ∧ k_ ≠ r)) (by (with_reducible repeat (first | apply Kd.yZ | apply Kd.yX | apply Kd.zv)); exact Kd.zG s.out (fun _ hk => ⟨⟨hk.1.1.2.1, ⟨hk.2, ⟨hk.1.1.2.2, hk.1.2⟩⟩⟩, hk.1.1.1⟩)) hg hat) (aC (Kd.R_over' (rU E.out) (Kd.zI (rU x.out)) (by decide) hg) (aC (xz (bU q.out) hg (Kd.ja x.out q.out (by decide))) (aC (xz (g := r) (o := .cells #[.string ((wj j d).f0), .int .i64 ((wj j d).f1), .int .i64 ((wj j d).f2.f0), .int .i64 ((wj j d).f2.f1), .int .i64 ((wj j d).f3)] 52 (0, 0)) (bU I.out) hg (Kd.ja x.out I.out (by decide))) (aC (Kd.U_after (ok := (fun _ => True)) (by (with_reducible repeat (first | apply Kd.zJ | apply Kd.zH | apply Kd.z5)); exact a0.out) hg hat) (aC hb (aE ho))))))); clear L s E q I a0 HB x; obtain ⟨L, s, E, q, I, a0, HB, f5⟩ := n_; clear ho hb hg hat))
               go_roundg k2
               case measure => have := d9.out; have := e2.out; omega
               case rel => exact ⟨(e7), (wrap64 (d + 1)), rq, H', ⟨by have := d9.out; have := e2.out; omega⟩, ⟨rU (Kd.vU f5.out (fun _ hk => trivial))⟩, ⟨by (with_reducible repeat (first | apply Kd.zC | apply Kd.zD | apply Kd.zS)); exact Kd.z8 L.out (fun _ hk => ⟨hk.2, ⟨hk.1.1, ⟨hk.1.2.1, hk.1.2.2.2.1⟩⟩⟩)⟩, ⟨by (with_reducible repeat (first | apply Kd.yZ | apply Kd.yX | apply Kd.zv)); exact Kd.zG s.out (fun _ hk => ⟨hk.2, ⟨hk.1.1, hk.1.2.2.1⟩⟩)⟩, ⟨rU (Kd.vU E.out (fun _ hk => trivial))⟩, ⟨bU q.out⟩, ⟨bl⟩⟩
              ·rw [if_neg e5] at H
               exact nB H
             ·rw [if_neg e4] at H
              exact nB H
            ·rw [if_neg e3] at H
             exact nB H
           ·have H' := aE H
            clear H
            go_wp2
            go_roundg k2
            case measure => have := d9.out; have := e2.out; omega
            case rel => exact ⟨(a1), ((zc u t)), (wrap64 (t + 1)), rq, H', ⟨by have := d9.out; have := e2.out; omega⟩, ⟨rU x.out⟩, ⟨by (with_reducible repeat (first | apply Kd.zC | apply Kd.zD | apply Kd.zS)); exact Kd.z8 L.out (fun _ hk => ⟨hk.1, hk.2.2.2⟩)⟩, ⟨by (with_reducible repeat (first | apply Kd.yZ | apply Kd.yX | apply Kd.zv)); exact Kd.zG s.out (fun _ hk => ⟨hk.1, hk.2.2⟩)⟩, ⟨bU q.out⟩, ⟨bl⟩⟩
        ·rw [if_neg e1] at H
         exact nB H
       ·rw [if_neg e0] at H
        exact nB H
      ·obtain ⟨⟨k3, k4⟩, n6, H⟩ := oB H
       try dsimp only at H
       simp only [Option.some.injEq, Prod.mk.injEq] at H
       obtain ⟨rfl, rfl⟩ := H
       obtain ⟨k5, k6, k7⟩ := Kd.vY x.out
       subst k7
       go_wp2_with (first | ((with_reducible refine gf 22 rfl ?_); refine gL (some 39) rfl rfl Tryz.func22 rfl #[.slice k5 a3.length k6] rfl ?_; (with_reducible refine (wS.calls k1 _ _ a3 k3 k4 _ ?side1 ?side2 n6.out).mono ?_); (case side1 => exact cU (Kd.R_reads' x.out).2.2); (case side2 => exact (Kd.R_reads' x.out).2.1); rintro e p2 ⟨o5, rfl, M, hb⟩; refine ⟨_, rfl, ?_⟩; have n_ := aC (Kd.R_elder' (rU x.out) (Kd.xc M) hb) (aC (Kd.V_elder' (by (with_reducible repeat (first | apply Kd.zC | apply Kd.zD | apply Kd.zS)); exact X.out) (Kd.xc M) hb) (aC (Kd.N_elder' (by (with_reducible repeat (first | apply Kd.yZ | apply Kd.yX | apply Kd.zv)); exact s.out) (Kd.xc M) hb) (aC (Kd.vS (Kd.R_new' M (Kd.xW (rU x.out))) bz) (aC (vp (bU q.out) hb) (aE (bs hb)))))); clear x X s q HB; obtain ⟨x, X, s, f6, q, HB⟩ := n_))
       go_ret2
       exact ⟨_, re, rU (Kd.vU f6.out (fun _ hk => trivial)), bl⟩
   ·rw [if_neg c5] at H
    exact nB H
  ·rw [if_neg c4] at H
   exact nB H
 ·replace c3 := Bool.eq_false_iff.mpr c3
  subst c3
  rw [if_neg Bool.false_ne_true] at H
  simp only [Option.some.injEq, Prod.mk.injEq] at H
  obtain ⟨rfl, rfl⟩ := H
  go_enter Tryz.func7, Tryz.ntmps7
  go_wp2_with (first | ((with_reducible refine gd 1 rfl ?_); refine bx 1 #[.int .i64 y, .int .i64 G, .slice O B.length T] 24 rfl rfl ?_; intro D hg p3 hbox hb; have n_ := aC (bs hb) (aC hbox (aC (gz hg) (aE (gz hg)))); clear HB; obtain ⟨HB, q, c0, e8⟩ := n_; clear hb hbox hg; obtain ⟨k8, k9, l2, l3, l4, l5⟩ := yk q.out) | ((with_reducible refine gf 18 rfl ?_); refine gL (some 11) rfl rfl Tryz.func18 rfl #[.agg #[.int .i64 y, .int .i64 G, .slice O B.length T]] rfl ?_; (with_reducible refine (wx.calls k y G _ _ B false _ ?side1 ?side2 A2.out).mono ?_); (case side1 => exact cU (Kd.wz a9.out HB.out)); (case side2 => exact b0.out); rintro e p4 ⟨rfl, hb⟩; refine ⟨_, rfl, ?_⟩; have n_ := aC (vp (bU q.out) hb) (aE (bs hb)); clear q HB; obtain ⟨q, HB⟩ := n_))
  go_ret2
  exact ⟨_, re, by first | exact Kd.yu _ _ _ _ _ | exact Kd.yR _ _ _ _ _ | exact Kd.yS _ _ _ _ _ | exact Kd.yP _ _ _ _ _ | exact Kd.yV _ _ _ _ _, bl⟩
end Go.Proofs.YtknclbodinfbeaaGreatDoor.PRunsBack
