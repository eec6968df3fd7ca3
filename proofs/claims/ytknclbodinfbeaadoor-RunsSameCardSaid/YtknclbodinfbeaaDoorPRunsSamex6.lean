-- printed (wip/tools/myprint.py)
import Derived.Test.YtknclbodinfbeaaDoorPRunsSamex0
import Derived.Test.YtknclbodinfbeaaDoorPRunsSamex4
import Derived.Test.YtknclbodinfbeaaDoorPRunsSamex5
namespace Go.Proofs.YtknclbodinfbeaaDoor.PRunsSame
open Go.RowKit Go.Proofs.YtknclbodinfbeaaDoorW.PrintWords Go.Proofs.YtknclbodinfbeaaDoorW.PrintLast Go.Proofs.YtknclbodinfbeaaDoorW.PrintMore
attribute [local go_sem] yf yc yD yE xV xU ye yh
set_option linter.unusedVariables false
set_option linter.unusedSimpArgs false
def vI.f (k : Nat)  : Option (Bool) := if 5 ≤ 281474976710656 then ((wt.f k (List.replicate 5 0) (List.replicate 5 0)).bind fun bt257 => ((xG.f k 5 0).bind fun bt261 => (if bt257.2 = 0 then (if (bt257.1.length : Int) = 1 then (if 0 < (bt257.1.length : Int) then (if (jD ByteArray.empty bt257.1 0).toList = ([117, 112, 48] : List UInt8) then (if bt261.2 = 0 then ((vR.f k bt261.1 (([0, 0, 1, 0, 0, 1] : List Int))).bind fun t269 => (some t269)) else (some false)) else (some false)) else (none)) else (some false)) else (some false)))) else (none)
theorem vI.mono : ∀ k, vP (vI.f k ) (vI.f (k + 1) ) := by
 intro  k
 unfold vI.f
 repeat' first
   | (with_reducible exact vR.mono _ _ _)
   | (with_reducible exact wt.mono _ _ _)
   | (with_reducible exact xG.mono _ _ _)
   | (with_reducible first | exact vP.refl _ | exact vP.none _ | apply vP.ite | refine vP.bind ?_ fun _ => ?_)
def vI.T1 : Bool × List (List Nat × List Nat) := (true, [([], []), ([], []), ([0, 1], [0, 1]), ([2], [2]), ([3], [3]), ([3], [3]), ([4, 2, 0, 1, 2, 3, 4], [4]), ([5, 6, 0, 1, 2, 3, 4, 5, 6], [5])])
def vI.B1 : List Nat := [0, 0, 3, 7, 15, 15, 31, 127]
theorem vI.tab1 : yN .any (opsOf Tryd.f13 1) = vI.T1 := by kernel_rfl
theorem vI.bits1 : yi vI.T1.2 vI.B1 = true := by kernel_rfl
set_option maxHeartbeats 8000000 in
set_option maxRecDepth 100000 in
theorem vI.calls (k : Nat)  (r : Bool) (w : World) (hT0 : TIs w) (h : vI.f k  = some r) :
  Calls Tryd.prog 13 #[] w fun e w' => e = .returned (.bool r) ∧ Below w.heap.size w w' := by
 have HTI := Aside0.mk hT0
 clear hT0
 have HB := Aside0.mk (Below.refl w.heap.size w)
 have H := h
 unfold vI.f at H
 clear h
 by_cases c1 : 5 ≤ 281474976710656
 ·rw [if_pos c1] at H
  have c1b0 := eq_true c1
  have c1b1 := decide_eq_true c1
  clear c1
  obtain ⟨y251, hy_⟩ : ∃ y_ : List Int, y_ = (List.replicate 5 0) := ⟨_, rfl⟩
  replace H : ((wt.f k y251 (List.replicate 5 0)).bind fun bt257 => ((xG.f k 5 0).bind fun bt261 => (if bt257.2 = 0 then (if (bt257.1.length : Int) = 1 then (if 0 < (bt257.1.length : Int) then (if (jD ByteArray.empty bt257.1 0).toList = ([117, 112, 48] : List UInt8) then (if bt261.2 = 0 then ((vR.f k bt261.1 (([0, 0, 1, 0, 0, 1] : List Int))).bind fun t269 => (some t269)) else (some false)) else (some false)) else (none)) else (some false)) else (some false)))) = some r := rh
  have Ny251 := aE hy_
  clear hy_
  obtain ⟨y254, hy_⟩ : ∃ y_ : List Int, y_ = (List.replicate 5 0) := ⟨_, rfl⟩
  replace H : ((wt.f k y251 y254).bind fun bt257 => ((xG.f k 5 0).bind fun bt261 => (if bt257.2 = 0 then (if (bt257.1.length : Int) = 1 then (if 0 < (bt257.1.length : Int) then (if (jD ByteArray.empty bt257.1 0).toList = ([117, 112, 48] : List UInt8) then (if bt261.2 = 0 then ((vR.f k bt261.1 (([0, 0, 1, 0, 0, 1] : List Int))).bind fun t269 => (some t269)) else (some false)) else (some false)) else (none)) else (some false)) else (some false)))) = some r := rh
  have Ny254 := aE hy_
  clear hy_
  obtain ⟨⟨t257, t258⟩, A2, H⟩ := oB H
  try dsimp only at H
  obtain ⟨⟨t261, t262⟩, A3, H⟩ := oB H
  try dsimp only at H
  rcases iE H with H1 | H1 <;> clear H <;> obtain ⟨H, c4b0, c4b1, c4⟩ := H1
  ·rcases iE H with H1 | H1 <;> clear H <;> obtain ⟨H, c5b0, c5b1, c5⟩ := H1
   ·by_cases c6 : 0 < (t257.length : Int)
    ·rw [if_pos c6] at H
     have c6b0 := decide_eq_true c6
     have c6b1 : decide (0 < t257.length) = true := decide_eq_true (by omega)
     clear c6
     rcases iE H with H1 | H1 <;> clear H <;> obtain ⟨H, c7b0, c7b1, c7⟩ := H1
     ·rcases iE H with H1 | H1 <;> clear H <;> obtain ⟨H, c8b0, c8b1, c8⟩ := H1
      ·obtain ⟨y266, hy_⟩ : ∃ y_ : List Int, y_ = (([0, 0, 1, 0, 0, 1] : List Int)) := ⟨_, rfl⟩
       replace H : ((vR.f k t261 y266).bind fun t269 => (some t269)) = some r := rh
       have Ny266 := aE hy_
       clear hy_
       obtain ⟨t269, A9, H⟩ := oB H
       try dsimp only at H
       obtain rfl := Option.some.inj H
       go_enter Tryd.func13, Tryd.ntmps13
       try go_wp2
       have n_ := aE (vG HB.out)
       clear HB
       have HB := n_
       clear n_
       refine st 8 (fun w' => True) [] (bv 8 0) vI.tab1 vI.bits1 trivial (fun hHeld HT_ HW_ => ?_)
       generalize w.drew = w10 at HB hHeld ⊢
       refine join_ (σ := Value × Value) 6 #[true, true, false, false, false, false, false, false] (fun s_ => [(6, s_.1), (7, s_.2)]) (fun s_ w' => (Kd.R (Kd.int .u8) 5 w' w.heap.size (fun k_ => some k_ ≠ (s_.2 : Value).ownBlock) s_.1 y251) ∧ (Kd.R (Kd.int .u8) 5 w' w.heap.size (fun k_ => some k_ ≠ (s_.1 : Value).ownBlock) s_.2 y254) ∧ (Below w.heap.size w w')) ?_ ?_
       rotate_left
       ·intro hCont
        refine two_ (i := 0) (j := 1) (Ni := some 6) (Nj := some 7) #[true, false, false, false, false, false, false, false] #[false, true, false, false, false, false, false, false] rfl rfl rfl rfl (qm HT_.out (by kernel_rfl)) (by decide) (by decide) (fun K hK => ?_) (fun K hK => ?_)
        ·skip
         refine Kd.xB (Kd.int .u8) _ 5 (by rfl) (N := 6) rfl 22 _ _ rfl 5 rfl rfl Tryd.underlying22 (.int .u8 0) 1 info5 rfl (by decide) (by omega) 0 (ok := fun _ => True) (okp := fun _ => True) rfl (fun _ hk => hk) trivial (by omega) (by omega) (Below.refl _ _) (Nat.le_refl _) ?_
         intro v252 w11 ho12 hb hg_ hnew_
         clear hg_ hnew_
         (first | rw [← Ny251.out] at ho12 | (simp only [Int.reduceToNat] at ho12; rw [← Ny251.out] at ho12))
         have n_ := aC (Kd.vX ho12 bz) (aE (bs hb))
         clear HB
         obtain ⟨HO253, HB⟩ := n_
         clear hb ho12
         refine hK.out _ _ trivial (fun hHeld => ?_)
         clear hK K
         refine nm (some 6) ?_
         refine yz (i := 1) (N := some 7) (bv 8 3) rfl rfl (xq HT_.out (by kernel_rfl)) (by decide) (fun K hK => ?_)
         refine Kd.xB (Kd.int .u8) _ 5 (by rfl) (N := 7) rfl 22 _ _ rfl 5 rfl rfl Tryd.underlying22 (.int .u8 0) 1 info5 rfl (by decide) (by omega) 0 (ok := fun _ => True) (okp := fun _ => True) rfl (fun _ hk => hk) trivial (by omega) (by omega) (Below.refl _ _) (Nat.le_refl _) ?_
         intro v255 w13 ho14 hb hg_ hnew_
         clear hg_ hnew_
         (first | rw [← Ny254.out] at ho14 | (simp only [Int.reduceToNat] at ho14; rw [← Ny254.out] at ho14))
         have n_ := aC (Kd.R_elder' (rU HO253.out) (Kd.xi ho14) hb) (aC (Kd.vX (Kd.R_new' ho14 (Kd.xX (rU HO253.out))) bz) (aE (bs hb)))
         clear HO253 HB
         obtain ⟨HO253, HO256, HB⟩ := n_
         clear hb ho14
         refine hK.out _ _ trivial (fun hHeld => ?_)
         clear hK K
         refine nm (some 7) ?_
         exact z8 (by simp only [zi, Act.put, List.setIfInBounds_toArray, List.set_cons_zero, List.set_cons_succ]) (hCont (v252, v255) _ ⟨(rU (Kd.vY HO253.out (fun _ hk => hk.2))), (rU (Kd.vY HO256.out (fun _ hk => hk.2))), bl⟩)
        ·skip
         refine Kd.xB (Kd.int .u8) _ 5 (by rfl) (N := 7) rfl 22 _ _ rfl 5 rfl rfl Tryd.underlying22 (.int .u8 0) 1 info5 rfl (by decide) (by omega) 0 (ok := fun _ => True) (okp := fun _ => True) rfl (fun _ hk => hk) trivial (by omega) (by omega) (Below.refl _ _) (Nat.le_refl _) ?_
         intro v255 w11 ho12 hb hg_ hnew_
         clear hg_ hnew_
         (first | rw [← Ny254.out] at ho12 | (simp only [Int.reduceToNat] at ho12; rw [← Ny254.out] at ho12))
         have n_ := aC (Kd.vX ho12 bz) (aE (bs hb))
         clear HB
         obtain ⟨HO256, HB⟩ := n_
         clear hb ho12
         refine hK.out _ _ trivial (fun hHeld => ?_)
         clear hK K
         refine nm (some 7) ?_
         refine yz (i := 0) (N := some 6) (bv 8 3) rfl rfl (xq HT_.out (by kernel_rfl)) (by decide) (fun K hK => ?_)
         refine Kd.xB (Kd.int .u8) _ 5 (by rfl) (N := 6) rfl 22 _ _ rfl 5 rfl rfl Tryd.underlying22 (.int .u8 0) 1 info5 rfl (by decide) (by omega) 0 (ok := fun _ => True) (okp := fun _ => True) rfl (fun _ hk => hk) trivial (by omega) (by omega) (Below.refl _ _) (Nat.le_refl _) ?_
         intro v252 w13 ho14 hb hg_ hnew_
         clear hg_ hnew_
         (first | rw [← Ny251.out] at ho14 | (simp only [Int.reduceToNat] at ho14; rw [← Ny251.out] at ho14))
         have n_ := aC (Kd.R_elder' (rU HO256.out) (Kd.xi ho14) hb) (aC (Kd.vX (Kd.R_new' ho14 (Kd.xX (rU HO256.out))) bz) (aE (bs hb)))
         clear HO256 HB
         obtain ⟨HO256, HO253, HB⟩ := n_
         clear hb ho14
         refine hK.out _ _ trivial (fun hHeld => ?_)
         clear hK K
         refine nm (some 6) ?_
         exact z8 (by simp only [zi, Act.put, List.setIfInBounds_toArray, List.set_cons_zero, List.set_cons_succ]) (hCont (v252, v255) _ ⟨(rU (Kd.vY HO253.out (fun _ hk => hk.2))), (rU (Kd.vY HO256.out (fun _ hk => hk.2))), bl⟩)
       rintro ⟨v252, v255⟩ w15 ⟨h0_, h1_, h2_⟩
       have n0_ : Aside0 (Kd.R (Kd.int .u8) 5 w15 w.heap.size (fun k_ => some k_ ≠ (v255 : Value).ownBlock) v252 y251) := ⟨h0_⟩
       have n1_ : Aside0 (Kd.R (Kd.int .u8) 5 w15 w.heap.size (fun k_ => some k_ ≠ (v252 : Value).ownBlock) v255 y254) := ⟨h1_⟩
       have n2_ : Aside0 (Below w.heap.size w w15) := ⟨h2_⟩
       clear HB
       clear h0_ h1_ h2_
       have HO253 := n0_
       have HO256 := n1_
       have HB := n2_
       clear n0_ n1_ n2_
       have hHeld := trivial
       obtain ⟨Ao16, co16, eo16⟩ := Kd.wq HO253.out
       (first | subst eo16 | (injection eo16 with f1_ f2_ f3_; have f4_ := f1_.symm; have f5_ := f3_.symm; clear f1_ f2_ f3_; subst f4_; subst f5_))
       obtain ⟨Ao17, co17, eo17⟩ := Kd.wq HO256.out
       (first | subst eo17 | (injection eo17 with f1_ f2_ f3_; have f4_ := f1_.symm; have f5_ := f3_.symm; clear f1_ f2_ f3_; subst f4_; subst f5_))
       refine z8 (a' := ?_) ?_ ?_
       rotate_left
       ·simp only [zi, Act.put, List.setIfInBounds_toArray, List.set_cons_zero, List.set_cons_succ]
        rfl
       refine yz (i := 2) (N := some 8) (bv 8 7) rfl rfl (xq HT_.out (by kernel_rfl)) (by decide) (fun K hK => ?_)
       refine gK Tryd.func16 rfl #[.slice Ao16 y251.length co16, .slice Ao17 y254.length co17] rfl rfl ?_
       with_reducible refine (wt.calls k _ _ y251 _ _ y254 t257 t258 _ (TIs.on HTI) ?side1 ?side2 ?side3 ?side4 A2.out).mono ?_
       (case side1 => exact cU (Kd.R_reads' HO253.out).2.2)
       (case side2 => exact (Kd.R_reads' HO253.out).2.1)
       (case side3 => exact cU (Kd.R_reads' HO256.out).2.2)
       (case side4 => exact (Kd.R_reads' HO256.out).2.1)
       rintro e w18 ⟨v259, rfl, ho0, hb⟩
       refine ⟨_, rfl, ?_⟩
       have n_ := aC (Kd.vT (rU HO253.out) hb) (aC (Kd.vT (rU HO256.out) hb) (aC (Kd.vX ho0 bz) (aE (bs hb))))
       clear HO253 HO256 HB
       obtain ⟨HO253, HO256, HO260, HB⟩ := n_
       (try clear hb)
       (try clear hb2)
       (try clear hk)
       (try clear hi)
       (try clear ho0)
       refine hK.out _ _ trivial (fun hHeld => ?_)
       clear hK K
       refine nm (some 8) ?_
       refine pu 3 5 (bv 8 15) HT_ rfl rfl ?_
       refine pu 4 9 (bv 8 31) HT_ rfl rfl ?_
       refine pu 5 10 (bv 8 63) HT_ rfl rfl ?_
       refine pu 6 1 (bv 8 127) HT_ rfl rfl ?_
       refine pu 7 2 (bv 8 255) HT_ rfl rfl ?_
       refine yO (xS HT_.out (by kernel_rfl)) ?_
       try go_wp2_with (first | (refine gF 12 12 Tryd.func12 #[.int .i64 5, .int .i64 0] rfl rfl ?_; (with_reducible refine (xG.calls k 5 0 t261 t262 _ A3.out).mono ?_); rintro e w19 ⟨v263, rfl, ho0, hb⟩; refine ⟨_, rfl, ?_⟩; have n_ := aC (Kd.R_elder' (rU HO253.out) (Kd.xi ho0) hb) (aC (Kd.R_elder' (rU HO256.out) (Kd.xi ho0) hb) (aC (Kd.vT (rU HO260.out) hb) (aC (Kd.vX (Kd.R_new' (Kd.R_new' ho0 (Kd.xX (rU HO253.out))) (Kd.xX (rU HO256.out))) bz) (aE (bs hb))))); clear HO253 HO256 HO260 HB; obtain ⟨HO253, HO256, HO260, HO264, HB⟩ := n_; obtain ⟨Ao20, co20, eo20⟩ := Kd.wq HO260.out; subst eo20; have p265 : 0 ≤ (0 : Int) := (by omega); have q265 : 0 < (t257.length : Int) := dt; obtain ⟨ad265, e265, hx265_0⟩ := Kd.zF (Kd.R_reads' HO260.out).2.2 0 p265 q265; cases e265; have qi265 : (0 < t257.length) = True := eq_true (by omega); (try rw [show ((0 : Int)).toNat = 0 from rfl] at hx265_0); (try rw [Addr.add_zero'] at hx265_0); replace p265 := eq_true p265; replace q265 := eq_true q265) | ((with_reducible refine gd 34 rfl ?_); (try (refine yb (by rfl) ?_; dsimp only)); refine Kd.zV (Kd.int .u8) _ 5 ?hg (N := 34) ?hd (xs := ([0, 0, 1, 0, 0, 1] : List Int)) (inner := [.int .u8 0, .int .u8 0, .int .u8 1, .int .u8 0, .int .u8 0, .int .u8 1]) (ok := fun _ => True) (okp := fun _ => True) ?hr ?hp (fun _ hk => hk) trivial (Below.refl _ _) (Nat.le_refl _) (by simp) ?_; (case hd => rfl); (case hg => rfl); (case hr => first | (go_simp; done) | (go_simp; rfl)); (case hp => exact (wX.one (show Kd.M (Kd.int .u8) _ _ _ 0 [.int .u8 0] from rfl) (wX.one (show Kd.M (Kd.int .u8) _ _ _ 0 [.int .u8 0] from rfl) (wX.one (show Kd.M (Kd.int .u8) _ _ _ 1 [.int .u8 1] from rfl) (wX.one (show Kd.M (Kd.int .u8) _ _ _ 0 [.int .u8 0] from rfl) (wX.one (show Kd.M (Kd.int .u8) _ _ _ 0 [.int .u8 0] from rfl) (wX.one (show Kd.M (Kd.int .u8) _ _ _ 1 [.int .u8 1] from rfl) (wX.none _ _)))))))); intro v267 w21 ho22 hb hg_ hnew_; clear hg_ hnew_; (first | rw [← Ny266.out] at ho22 | (simp only [Int.reduceToNat] at ho22; rw [← Ny266.out] at ho22)); have n_ := aC (Kd.R_elder' (rU HO253.out) (Kd.xi ho22) hb) (aC (Kd.R_elder' (rU HO256.out) (Kd.xi ho22) hb) (aC (Kd.vT (rU HO260.out) hb) (aC (Kd.R_elder' (rU HO264.out) (Kd.xi ho22) hb) (aC (Kd.vX (Kd.R_new' (Kd.R_new' (Kd.R_new' ho22 (Kd.xX (rU HO253.out))) (Kd.xX (rU HO256.out))) (Kd.xX (rU HO264.out))) bz) (aE (bs hb)))))); clear HO253 HO256 HO260 HO264 HB; obtain ⟨HO253, HO256, HO260, HO264, HO268, HB⟩ := n_; clear hb ho22; obtain ⟨Ao23, co23, eo23⟩ := Kd.wq HO264.out; subst eo23; obtain ⟨Ao24, co24, eo24⟩ := Kd.wq HO268.out; subst eo24) | (go_at_call 14; (with_reducible refine (vR.calls k _ _ t261 _ _ y266 t269 _ ?side1 ?side2 ?side3 ?side4 A9.out).mono ?_); (case side1 => exact cU (Kd.R_reads' HO264.out).2.2); (case side2 => exact (Kd.R_reads' HO264.out).2.1); (case side3 => exact cU (Kd.R_reads' HO268.out).2.2); (case side4 => exact (Kd.R_reads' HO268.out).2.1); rintro e w' ⟨rfl, ⟨nd, rfl⟩⟩))
       go_ret
       exact ⟨re, bl⟩
      ·obtain rfl := Option.some.inj H
       go_enter Tryd.func13, Tryd.ntmps13
       try go_wp2
       have n_ := aE (vG HB.out)
       clear HB
       have HB := n_
       clear n_
       refine st 8 (fun w' => True) [] (bv 8 0) vI.tab1 vI.bits1 trivial (fun hHeld HT_ HW_ => ?_)
       generalize w.drew = w25 at HB hHeld ⊢
       refine join_ (σ := Value × Value) 6 #[true, true, false, false, false, false, false, false] (fun s_ => [(6, s_.1), (7, s_.2)]) (fun s_ w' => (Kd.R (Kd.int .u8) 5 w' w.heap.size (fun k_ => some k_ ≠ (s_.2 : Value).ownBlock) s_.1 y251) ∧ (Kd.R (Kd.int .u8) 5 w' w.heap.size (fun k_ => some k_ ≠ (s_.1 : Value).ownBlock) s_.2 y254) ∧ (Below w.heap.size w w')) ?_ ?_
       rotate_left
       ·intro hCont
        refine two_ (i := 0) (j := 1) (Ni := some 6) (Nj := some 7) #[true, false, false, false, false, false, false, false] #[false, true, false, false, false, false, false, false] rfl rfl rfl rfl (qm HT_.out (by kernel_rfl)) (by decide) (by decide) (fun K hK => ?_) (fun K hK => ?_)
        ·skip
         refine Kd.xB (Kd.int .u8) _ 5 (by rfl) (N := 6) rfl 22 _ _ rfl 5 rfl rfl Tryd.underlying22 (.int .u8 0) 1 info5 rfl (by decide) (by omega) 0 (ok := fun _ => True) (okp := fun _ => True) rfl (fun _ hk => hk) trivial (by omega) (by omega) (Below.refl _ _) (Nat.le_refl _) ?_
         intro v252 w26 ho27 hb hg_ hnew_
         clear hg_ hnew_
         (first | rw [← Ny251.out] at ho27 | (simp only [Int.reduceToNat] at ho27; rw [← Ny251.out] at ho27))
         have n_ := aC (Kd.vX ho27 bz) (aE (bs hb))
         clear HB
         obtain ⟨HO253, HB⟩ := n_
         clear hb ho27
         refine hK.out _ _ trivial (fun hHeld => ?_)
         clear hK K
         refine nm (some 6) ?_
         refine yz (i := 1) (N := some 7) (bv 8 3) rfl rfl (xq HT_.out (by kernel_rfl)) (by decide) (fun K hK => ?_)
         refine Kd.xB (Kd.int .u8) _ 5 (by rfl) (N := 7) rfl 22 _ _ rfl 5 rfl rfl Tryd.underlying22 (.int .u8 0) 1 info5 rfl (by decide) (by omega) 0 (ok := fun _ => True) (okp := fun _ => True) rfl (fun _ hk => hk) trivial (by omega) (by omega) (Below.refl _ _) (Nat.le_refl _) ?_
         intro v255 w28 ho29 hb hg_ hnew_
         clear hg_ hnew_
         (first | rw [← Ny254.out] at ho29 | (simp only [Int.reduceToNat] at ho29; rw [← Ny254.out] at ho29))
         have n_ := aC (Kd.R_elder' (rU HO253.out) (Kd.xi ho29) hb) (aC (Kd.vX (Kd.R_new' ho29 (Kd.xX (rU HO253.out))) bz) (aE (bs hb)))
         clear HO253 HB
         obtain ⟨HO253, HO256, HB⟩ := n_
         clear hb ho29
         refine hK.out _ _ trivial (fun hHeld => ?_)
         clear hK K
         refine nm (some 7) ?_
         exact z8 (by simp only [zi, Act.put, List.setIfInBounds_toArray, List.set_cons_zero, List.set_cons_succ]) (hCont (v252, v255) _ ⟨(rU (Kd.vY HO253.out (fun _ hk => hk.2))), (rU (Kd.vY HO256.out (fun _ hk => hk.2))), bl⟩)
        ·skip
         refine Kd.xB (Kd.int .u8) _ 5 (by rfl) (N := 7) rfl 22 _ _ rfl 5 rfl rfl Tryd.underlying22 (.int .u8 0) 1 info5 rfl (by decide) (by omega) 0 (ok := fun _ => True) (okp := fun _ => True) rfl (fun _ hk => hk) trivial (by omega) (by omega) (Below.refl _ _) (Nat.le_refl _) ?_
         intro v255 w26 ho27 hb hg_ hnew_
         clear hg_ hnew_
         (first | rw [← Ny254.out] at ho27 | (simp only [Int.reduceToNat] at ho27; rw [← Ny254.out] at ho27))
         have n_ := aC (Kd.vX ho27 bz) (aE (bs hb))
         clear HB
         obtain ⟨HO256, HB⟩ := n_
         clear hb ho27
         refine hK.out _ _ trivial (fun hHeld => ?_)
         clear hK K
         refine nm (some 7) ?_
         refine yz (i := 0) (N := some 6) (bv 8 3) rfl rfl (xq HT_.out (by kernel_rfl)) (by decide) (fun K hK => ?_)
         refine Kd.xB (Kd.int .u8) _ 5 (by rfl) (N := 6) rfl 22 _ _ rfl 5 rfl rfl Tryd.underlying22 (.int .u8 0) 1 info5 rfl (by decide) (by omega) 0 (ok := fun _ => True) (okp := fun _ => True) rfl (fun _ hk => hk) trivial (by omega) (by omega) (Below.refl _ _) (Nat.le_refl _) ?_
         intro v252 w28 ho29 hb hg_ hnew_
         clear hg_ hnew_
         (first | rw [← Ny251.out] at ho29 | (simp only [Int.reduceToNat] at ho29; rw [← Ny251.out] at ho29))
         have n_ := aC (Kd.R_elder' (rU HO256.out) (Kd.xi ho29) hb) (aC (Kd.vX (Kd.R_new' ho29 (Kd.xX (rU HO256.out))) bz) (aE (bs hb)))
         clear HO256 HB
         obtain ⟨HO256, HO253, HB⟩ := n_
         clear hb ho29
         refine hK.out _ _ trivial (fun hHeld => ?_)
         clear hK K
         refine nm (some 6) ?_
         exact z8 (by simp only [zi, Act.put, List.setIfInBounds_toArray, List.set_cons_zero, List.set_cons_succ]) (hCont (v252, v255) _ ⟨(rU (Kd.vY HO253.out (fun _ hk => hk.2))), (rU (Kd.vY HO256.out (fun _ hk => hk.2))), bl⟩)
       rintro ⟨v252, v255⟩ w30 ⟨h0_, h1_, h2_⟩
       have n0_ : Aside0 (Kd.R (Kd.int .u8) 5 w30 w.heap.size (fun k_ => some k_ ≠ (v255 : Value).ownBlock) v252 y251) := ⟨h0_⟩
       have n1_ : Aside0 (Kd.R (Kd.int .u8) 5 w30 w.heap.size (fun k_ => some k_ ≠ (v252 : Value).ownBlock) v255 y254) := ⟨h1_⟩
       have n2_ : Aside0 (Below w.heap.size w w30) := ⟨h2_⟩
       clear HB
       clear h0_ h1_ h2_
       have HO253 := n0_
       have HO256 := n1_
       have HB := n2_
       clear n0_ n1_ n2_
       have hHeld := trivial
       obtain ⟨Ao31, co31, eo31⟩ := Kd.wq HO253.out
       (first | subst eo31 | (injection eo31 with f1_ f2_ f3_; have f4_ := f1_.symm; have f5_ := f3_.symm; clear f1_ f2_ f3_; subst f4_; subst f5_))
       obtain ⟨Ao32, co32, eo32⟩ := Kd.wq HO256.out
       (first | subst eo32 | (injection eo32 with f1_ f2_ f3_; have f4_ := f1_.symm; have f5_ := f3_.symm; clear f1_ f2_ f3_; subst f4_; subst f5_))
       refine z8 (a' := ?_) ?_ ?_
       rotate_left
       ·simp only [zi, Act.put, List.setIfInBounds_toArray, List.set_cons_zero, List.set_cons_succ]
        rfl
       refine yz (i := 2) (N := some 8) (bv 8 7) rfl rfl (xq HT_.out (by kernel_rfl)) (by decide) (fun K hK => ?_)
       refine gK Tryd.func16 rfl #[.slice Ao31 y251.length co31, .slice Ao32 y254.length co32] rfl rfl ?_
       with_reducible refine (wt.calls k _ _ y251 _ _ y254 t257 t258 _ (TIs.on HTI) ?side1 ?side2 ?side3 ?side4 A2.out).mono ?_
       (case side1 => exact cU (Kd.R_reads' HO253.out).2.2)
       (case side2 => exact (Kd.R_reads' HO253.out).2.1)
       (case side3 => exact cU (Kd.R_reads' HO256.out).2.2)
       (case side4 => exact (Kd.R_reads' HO256.out).2.1)
       rintro e w33 ⟨v259, rfl, ho0, hb⟩
       refine ⟨_, rfl, ?_⟩
       have n_ := aC (Kd.vT (rU HO253.out) hb) (aC (Kd.vT (rU HO256.out) hb) (aC (Kd.vX ho0 bz) (aE (bs hb))))
       clear HO253 HO256 HB
       obtain ⟨HO253, HO256, HO260, HB⟩ := n_
       (try clear hb)
       (try clear hb2)
       (try clear hk)
       (try clear hi)
       (try clear ho0)
       refine hK.out _ _ trivial (fun hHeld => ?_)
       clear hK K
       refine nm (some 8) ?_
       refine pu 3 5 (bv 8 15) HT_ rfl rfl ?_
       refine pu 4 9 (bv 8 31) HT_ rfl rfl ?_
       refine pu 5 10 (bv 8 63) HT_ rfl rfl ?_
       refine pu 6 1 (bv 8 127) HT_ rfl rfl ?_
       refine pu 7 2 (bv 8 255) HT_ rfl rfl ?_
       refine yO (xS HT_.out (by kernel_rfl)) ?_
       try go_wp2_with (first | (refine gF 12 12 Tryd.func12 #[.int .i64 5, .int .i64 0] rfl rfl ?_; (with_reducible refine (xG.calls k 5 0 t261 t262 _ A3.out).mono ?_); rintro e w34 ⟨v263, rfl, ho0, hb⟩; refine ⟨_, rfl, ?_⟩; have n_ := aC (Kd.R_elder' (rU HO253.out) (Kd.xi ho0) hb) (aC (Kd.R_elder' (rU HO256.out) (Kd.xi ho0) hb) (aC (Kd.vT (rU HO260.out) hb) (aC (Kd.vX (Kd.R_new' (Kd.R_new' ho0 (Kd.xX (rU HO253.out))) (Kd.xX (rU HO256.out))) bz) (aE (bs hb))))); clear HO253 HO256 HO260 HB; obtain ⟨HO253, HO256, HO260, HO264, HB⟩ := n_; obtain ⟨Ao35, co35, eo35⟩ := Kd.wq HO260.out; subst eo35; have p265 : 0 ≤ (0 : Int) := (by omega); have q265 : 0 < (t257.length : Int) := dt; obtain ⟨ad265, e265, hx265_0⟩ := Kd.zF (Kd.R_reads' HO260.out).2.2 0 p265 q265; cases e265; have qi265 : (0 < t257.length) = True := eq_true (by omega); (try rw [show ((0 : Int)).toNat = 0 from rfl] at hx265_0); (try rw [Addr.add_zero'] at hx265_0); replace p265 := eq_true p265; replace q265 := eq_true q265))
       go_ret
       exact ⟨re, bl⟩
     ·obtain rfl := Option.some.inj H
      go_enter Tryd.func13, Tryd.ntmps13
      try go_wp2
      have n_ := aE (vG HB.out)
      clear HB
      have HB := n_
      clear n_
      refine st 8 (fun w' => True) [] (bv 8 0) vI.tab1 vI.bits1 trivial (fun hHeld HT_ HW_ => ?_)
      generalize w.drew = w36 at HB hHeld ⊢
      refine join_ (σ := Value × Value) 6 #[true, true, false, false, false, false, false, false] (fun s_ => [(6, s_.1), (7, s_.2)]) (fun s_ w' => (Kd.R (Kd.int .u8) 5 w' w.heap.size (fun k_ => some k_ ≠ (s_.2 : Value).ownBlock) s_.1 y251) ∧ (Kd.R (Kd.int .u8) 5 w' w.heap.size (fun k_ => some k_ ≠ (s_.1 : Value).ownBlock) s_.2 y254) ∧ (Below w.heap.size w w')) ?_ ?_
      rotate_left
      ·intro hCont
       refine two_ (i := 0) (j := 1) (Ni := some 6) (Nj := some 7) #[true, false, false, false, false, false, false, false] #[false, true, false, false, false, false, false, false] rfl rfl rfl rfl (qm HT_.out (by kernel_rfl)) (by decide) (by decide) (fun K hK => ?_) (fun K hK => ?_)
       ·skip
        refine Kd.xB (Kd.int .u8) _ 5 (by rfl) (N := 6) rfl 22 _ _ rfl 5 rfl rfl Tryd.underlying22 (.int .u8 0) 1 info5 rfl (by decide) (by omega) 0 (ok := fun _ => True) (okp := fun _ => True) rfl (fun _ hk => hk) trivial (by omega) (by omega) (Below.refl _ _) (Nat.le_refl _) ?_
        intro v252 w37 ho38 hb hg_ hnew_
        clear hg_ hnew_
        (first | rw [← Ny251.out] at ho38 | (simp only [Int.reduceToNat] at ho38; rw [← Ny251.out] at ho38))
        have n_ := aC (Kd.vX ho38 bz) (aE (bs hb))
        clear HB
        obtain ⟨HO253, HB⟩ := n_
        clear hb ho38
        refine hK.out _ _ trivial (fun hHeld => ?_)
        clear hK K
        refine nm (some 6) ?_
        refine yz (i := 1) (N := some 7) (bv 8 3) rfl rfl (xq HT_.out (by kernel_rfl)) (by decide) (fun K hK => ?_)
        refine Kd.xB (Kd.int .u8) _ 5 (by rfl) (N := 7) rfl 22 _ _ rfl 5 rfl rfl Tryd.underlying22 (.int .u8 0) 1 info5 rfl (by decide) (by omega) 0 (ok := fun _ => True) (okp := fun _ => True) rfl (fun _ hk => hk) trivial (by omega) (by omega) (Below.refl _ _) (Nat.le_refl _) ?_
        intro v255 w39 ho40 hb hg_ hnew_
        clear hg_ hnew_
        (first | rw [← Ny254.out] at ho40 | (simp only [Int.reduceToNat] at ho40; rw [← Ny254.out] at ho40))
        have n_ := aC (Kd.R_elder' (rU HO253.out) (Kd.xi ho40) hb) (aC (Kd.vX (Kd.R_new' ho40 (Kd.xX (rU HO253.out))) bz) (aE (bs hb)))
        clear HO253 HB
        obtain ⟨HO253, HO256, HB⟩ := n_
        clear hb ho40
        refine hK.out _ _ trivial (fun hHeld => ?_)
        clear hK K
        refine nm (some 7) ?_
        exact z8 (by simp only [zi, Act.put, List.setIfInBounds_toArray, List.set_cons_zero, List.set_cons_succ]) (hCont (v252, v255) _ ⟨(rU (Kd.vY HO253.out (fun _ hk => hk.2))), (rU (Kd.vY HO256.out (fun _ hk => hk.2))), bl⟩)
       ·skip
        refine Kd.xB (Kd.int .u8) _ 5 (by rfl) (N := 7) rfl 22 _ _ rfl 5 rfl rfl Tryd.underlying22 (.int .u8 0) 1 info5 rfl (by decide) (by omega) 0 (ok := fun _ => True) (okp := fun _ => True) rfl (fun _ hk => hk) trivial (by omega) (by omega) (Below.refl _ _) (Nat.le_refl _) ?_
        intro v255 w37 ho38 hb hg_ hnew_
        clear hg_ hnew_
        (first | rw [← Ny254.out] at ho38 | (simp only [Int.reduceToNat] at ho38; rw [← Ny254.out] at ho38))
        have n_ := aC (Kd.vX ho38 bz) (aE (bs hb))
        clear HB
        obtain ⟨HO256, HB⟩ := n_
        clear hb ho38
        refine hK.out _ _ trivial (fun hHeld => ?_)
        clear hK K
        refine nm (some 7) ?_
        refine yz (i := 0) (N := some 6) (bv 8 3) rfl rfl (xq HT_.out (by kernel_rfl)) (by decide) (fun K hK => ?_)
        refine Kd.xB (Kd.int .u8) _ 5 (by rfl) (N := 6) rfl 22 _ _ rfl 5 rfl rfl Tryd.underlying22 (.int .u8 0) 1 info5 rfl (by decide) (by omega) 0 (ok := fun _ => True) (okp := fun _ => True) rfl (fun _ hk => hk) trivial (by omega) (by omega) (Below.refl _ _) (Nat.le_refl _) ?_
        intro v252 w39 ho40 hb hg_ hnew_
        clear hg_ hnew_
        (first | rw [← Ny251.out] at ho40 | (simp only [Int.reduceToNat] at ho40; rw [← Ny251.out] at ho40))
        have n_ := aC (Kd.R_elder' (rU HO256.out) (Kd.xi ho40) hb) (aC (Kd.vX (Kd.R_new' ho40 (Kd.xX (rU HO256.out))) bz) (aE (bs hb)))
        clear HO256 HB
        obtain ⟨HO256, HO253, HB⟩ := n_
        clear hb ho40
        refine hK.out _ _ trivial (fun hHeld => ?_)
        clear hK K
        refine nm (some 6) ?_
        exact z8 (by simp only [zi, Act.put, List.setIfInBounds_toArray, List.set_cons_zero, List.set_cons_succ]) (hCont (v252, v255) _ ⟨(rU (Kd.vY HO253.out (fun _ hk => hk.2))), (rU (Kd.vY HO256.out (fun _ hk => hk.2))), bl⟩)
      rintro ⟨v252, v255⟩ w41 ⟨h0_, h1_, h2_⟩
      have n0_ : Aside0 (Kd.R (Kd.int .u8) 5 w41 w.heap.size (fun k_ => some k_ ≠ (v255 : Value).ownBlock) v252 y251) := ⟨h0_⟩
      have n1_ : Aside0 (Kd.R (Kd.int .u8) 5 w41 w.heap.size (fun k_ => some k_ ≠ (v252 : Value).ownBlock) v255 y254) := ⟨h1_⟩
      have n2_ : Aside0 (Below w.heap.size w w41) := ⟨h2_⟩
      clear HB
      clear h0_ h1_ h2_
      have HO253 := n0_
      have HO256 := n1_
      have HB := n2_
      clear n0_ n1_ n2_
      have hHeld := trivial
      obtain ⟨Ao42, co42, eo42⟩ := Kd.wq HO253.out
      (first | subst eo42 | (injection eo42 with f1_ f2_ f3_; have f4_ := f1_.symm; have f5_ := f3_.symm; clear f1_ f2_ f3_; subst f4_; subst f5_))
      obtain ⟨Ao43, co43, eo43⟩ := Kd.wq HO256.out
      (first | subst eo43 | (injection eo43 with f1_ f2_ f3_; have f4_ := f1_.symm; have f5_ := f3_.symm; clear f1_ f2_ f3_; subst f4_; subst f5_))
      refine z8 (a' := ?_) ?_ ?_
      rotate_left
      ·simp only [zi, Act.put, List.setIfInBounds_toArray, List.set_cons_zero, List.set_cons_succ]
       rfl
      refine yz (i := 2) (N := some 8) (bv 8 7) rfl rfl (xq HT_.out (by kernel_rfl)) (by decide) (fun K hK => ?_)
      refine gK Tryd.func16 rfl #[.slice Ao42 y251.length co42, .slice Ao43 y254.length co43] rfl rfl ?_
      with_reducible refine (wt.calls k _ _ y251 _ _ y254 t257 t258 _ (TIs.on HTI) ?side1 ?side2 ?side3 ?side4 A2.out).mono ?_
      (case side1 => exact cU (Kd.R_reads' HO253.out).2.2)
      (case side2 => exact (Kd.R_reads' HO253.out).2.1)
      (case side3 => exact cU (Kd.R_reads' HO256.out).2.2)
      (case side4 => exact (Kd.R_reads' HO256.out).2.1)
      rintro e w44 ⟨v259, rfl, ho0, hb⟩
      refine ⟨_, rfl, ?_⟩
      have n_ := aC (Kd.vT (rU HO253.out) hb) (aC (Kd.vT (rU HO256.out) hb) (aC (Kd.vX ho0 bz) (aE (bs hb))))
      clear HO253 HO256 HB
      obtain ⟨HO253, HO256, HO260, HB⟩ := n_
      (try clear hb)
      (try clear hb2)
      (try clear hk)
      (try clear hi)
      (try clear ho0)
      refine hK.out _ _ trivial (fun hHeld => ?_)
      clear hK K
      refine nm (some 8) ?_
      refine pu 3 5 (bv 8 15) HT_ rfl rfl ?_
      refine pu 4 9 (bv 8 31) HT_ rfl rfl ?_
      refine pu 5 10 (bv 8 63) HT_ rfl rfl ?_
      refine pu 6 1 (bv 8 127) HT_ rfl rfl ?_
      refine pu 7 2 (bv 8 255) HT_ rfl rfl ?_
      refine yO (xS HT_.out (by kernel_rfl)) ?_
      try go_wp2_with (first | (refine gF 12 12 Tryd.func12 #[.int .i64 5, .int .i64 0] rfl rfl ?_; (with_reducible refine (xG.calls k 5 0 t261 t262 _ A3.out).mono ?_); rintro e w45 ⟨v263, rfl, ho0, hb⟩; refine ⟨_, rfl, ?_⟩; have n_ := aC (Kd.R_elder' (rU HO253.out) (Kd.xi ho0) hb) (aC (Kd.R_elder' (rU HO256.out) (Kd.xi ho0) hb) (aC (Kd.vT (rU HO260.out) hb) (aC (Kd.vX (Kd.R_new' (Kd.R_new' ho0 (Kd.xX (rU HO253.out))) (Kd.xX (rU HO256.out))) bz) (aE (bs hb))))); clear HO253 HO256 HO260 HB; obtain ⟨HO253, HO256, HO260, HO264, HB⟩ := n_; obtain ⟨Ao46, co46, eo46⟩ := Kd.wq HO260.out; subst eo46; have p265 : 0 ≤ (0 : Int) := (by omega); have q265 : 0 < (t257.length : Int) := dt; obtain ⟨ad265, e265, hx265_0⟩ := Kd.zF (Kd.R_reads' HO260.out).2.2 0 p265 q265; cases e265; have qi265 : (0 < t257.length) = True := eq_true (by omega); (try rw [show ((0 : Int)).toNat = 0 from rfl] at hx265_0); (try rw [Addr.add_zero'] at hx265_0); replace p265 := eq_true p265; replace q265 := eq_true q265))
      go_ret
      exact ⟨re, bl⟩
    ·rw [if_neg c6] at H
     exact absurd H (by simp)
   ·obtain rfl := Option.some.inj H
    go_enter Tryd.func13, Tryd.ntmps13
    try go_wp2
    have n_ := aE (vG HB.out)
    clear HB
    have HB := n_
    clear n_
    refine st 8 (fun w' => True) [] (bv 8 0) vI.tab1 vI.bits1 trivial (fun hHeld HT_ HW_ => ?_)
    generalize w.drew = w47 at HB hHeld ⊢
    refine join_ (σ := Value × Value) 6 #[true, true, false, false, false, false, false, false] (fun s_ => [(6, s_.1), (7, s_.2)]) (fun s_ w' => (Kd.R (Kd.int .u8) 5 w' w.heap.size (fun k_ => some k_ ≠ (s_.2 : Value).ownBlock) s_.1 y251) ∧ (Kd.R (Kd.int .u8) 5 w' w.heap.size (fun k_ => some k_ ≠ (s_.1 : Value).ownBlock) s_.2 y254) ∧ (Below w.heap.size w w')) ?_ ?_
    rotate_left
    ·intro hCont
     refine two_ (i := 0) (j := 1) (Ni := some 6) (Nj := some 7) #[true, false, false, false, false, false, false, false] #[false, true, false, false, false, false, false, false] rfl rfl rfl rfl (qm HT_.out (by kernel_rfl)) (by decide) (by decide) (fun K hK => ?_) (fun K hK => ?_)
     ·skip
      refine Kd.xB (Kd.int .u8) _ 5 (by rfl) (N := 6) rfl 22 _ _ rfl 5 rfl rfl Tryd.underlying22 (.int .u8 0) 1 info5 rfl (by decide) (by omega) 0 (ok := fun _ => True) (okp := fun _ => True) rfl (fun _ hk => hk) trivial (by omega) (by omega) (Below.refl _ _) (Nat.le_refl _) ?_
      intro v252 w48 ho49 hb hg_ hnew_
      clear hg_ hnew_
      (first | rw [← Ny251.out] at ho49 | (simp only [Int.reduceToNat] at ho49; rw [← Ny251.out] at ho49))
      have n_ := aC (Kd.vX ho49 bz) (aE (bs hb))
      clear HB
      obtain ⟨HO253, HB⟩ := n_
      clear hb ho49
      refine hK.out _ _ trivial (fun hHeld => ?_)
      clear hK K
      refine nm (some 6) ?_
      refine yz (i := 1) (N := some 7) (bv 8 3) rfl rfl (xq HT_.out (by kernel_rfl)) (by decide) (fun K hK => ?_)
      refine Kd.xB (Kd.int .u8) _ 5 (by rfl) (N := 7) rfl 22 _ _ rfl 5 rfl rfl Tryd.underlying22 (.int .u8 0) 1 info5 rfl (by decide) (by omega) 0 (ok := fun _ => True) (okp := fun _ => True) rfl (fun _ hk => hk) trivial (by omega) (by omega) (Below.refl _ _) (Nat.le_refl _) ?_
      intro v255 w50 ho51 hb hg_ hnew_
      clear hg_ hnew_
      (first | rw [← Ny254.out] at ho51 | (simp only [Int.reduceToNat] at ho51; rw [← Ny254.out] at ho51))
      have n_ := aC (Kd.R_elder' (rU HO253.out) (Kd.xi ho51) hb) (aC (Kd.vX (Kd.R_new' ho51 (Kd.xX (rU HO253.out))) bz) (aE (bs hb)))
      clear HO253 HB
      obtain ⟨HO253, HO256, HB⟩ := n_
      clear hb ho51
      refine hK.out _ _ trivial (fun hHeld => ?_)
      clear hK K
      refine nm (some 7) ?_
      exact z8 (by simp only [zi, Act.put, List.setIfInBounds_toArray, List.set_cons_zero, List.set_cons_succ]) (hCont (v252, v255) _ ⟨(rU (Kd.vY HO253.out (fun _ hk => hk.2))), (rU (Kd.vY HO256.out (fun _ hk => hk.2))), bl⟩)
     ·skip
      refine Kd.xB (Kd.int .u8) _ 5 (by rfl) (N := 7) rfl 22 _ _ rfl 5 rfl rfl Tryd.underlying22 (.int .u8 0) 1 info5 rfl (by decide) (by omega) 0 (ok := fun _ => True) (okp := fun _ => True) rfl (fun _ hk => hk) trivial (by omega) (by omega) (Below.refl _ _) (Nat.le_refl _) ?_
      intro v255 w48 ho49 hb hg_ hnew_
      clear hg_ hnew_
      (first | rw [← Ny254.out] at ho49 | (simp only [Int.reduceToNat] at ho49; rw [← Ny254.out] at ho49))
      have n_ := aC (Kd.vX ho49 bz) (aE (bs hb))
      clear HB
      obtain ⟨HO256, HB⟩ := n_
      clear hb ho49
      refine hK.out _ _ trivial (fun hHeld => ?_)
      clear hK K
      refine nm (some 7) ?_
      refine yz (i := 0) (N := some 6) (bv 8 3) rfl rfl (xq HT_.out (by kernel_rfl)) (by decide) (fun K hK => ?_)
      refine Kd.xB (Kd.int .u8) _ 5 (by rfl) (N := 6) rfl 22 _ _ rfl 5 rfl rfl Tryd.underlying22 (.int .u8 0) 1 info5 rfl (by decide) (by omega) 0 (ok := fun _ => True) (okp := fun _ => True) rfl (fun _ hk => hk) trivial (by omega) (by omega) (Below.refl _ _) (Nat.le_refl _) ?_
      intro v252 w50 ho51 hb hg_ hnew_
      clear hg_ hnew_
      (first | rw [← Ny251.out] at ho51 | (simp only [Int.reduceToNat] at ho51; rw [← Ny251.out] at ho51))
      have n_ := aC (Kd.R_elder' (rU HO256.out) (Kd.xi ho51) hb) (aC (Kd.vX (Kd.R_new' ho51 (Kd.xX (rU HO256.out))) bz) (aE (bs hb)))
      clear HO256 HB
      obtain ⟨HO256, HO253, HB⟩ := n_
      clear hb ho51
      refine hK.out _ _ trivial (fun hHeld => ?_)
      clear hK K
      refine nm (some 6) ?_
      exact z8 (by simp only [zi, Act.put, List.setIfInBounds_toArray, List.set_cons_zero, List.set_cons_succ]) (hCont (v252, v255) _ ⟨(rU (Kd.vY HO253.out (fun _ hk => hk.2))), (rU (Kd.vY HO256.out (fun _ hk => hk.2))), bl⟩)
    rintro ⟨v252, v255⟩ w52 ⟨h0_, h1_, h2_⟩
    have n0_ : Aside0 (Kd.R (Kd.int .u8) 5 w52 w.heap.size (fun k_ => some k_ ≠ (v255 : Value).ownBlock) v252 y251) := ⟨h0_⟩
    have n1_ : Aside0 (Kd.R (Kd.int .u8) 5 w52 w.heap.size (fun k_ => some k_ ≠ (v252 : Value).ownBlock) v255 y254) := ⟨h1_⟩
    have n2_ : Aside0 (Below w.heap.size w w52) := ⟨h2_⟩
    clear HB
    clear h0_ h1_ h2_
    have HO253 := n0_
    have HO256 := n1_
    have HB := n2_
    clear n0_ n1_ n2_
    have hHeld := trivial
    obtain ⟨Ao53, co53, eo53⟩ := Kd.wq HO253.out
    (first | subst eo53 | (injection eo53 with f1_ f2_ f3_; have f4_ := f1_.symm; have f5_ := f3_.symm; clear f1_ f2_ f3_; subst f4_; subst f5_))
    obtain ⟨Ao54, co54, eo54⟩ := Kd.wq HO256.out
    (first | subst eo54 | (injection eo54 with f1_ f2_ f3_; have f4_ := f1_.symm; have f5_ := f3_.symm; clear f1_ f2_ f3_; subst f4_; subst f5_))
    refine z8 (a' := ?_) ?_ ?_
    rotate_left
    ·simp only [zi, Act.put, List.setIfInBounds_toArray, List.set_cons_zero, List.set_cons_succ]
     rfl
    refine yz (i := 2) (N := some 8) (bv 8 7) rfl rfl (xq HT_.out (by kernel_rfl)) (by decide) (fun K hK => ?_)
    refine gK Tryd.func16 rfl #[.slice Ao53 y251.length co53, .slice Ao54 y254.length co54] rfl rfl ?_
    with_reducible refine (wt.calls k _ _ y251 _ _ y254 t257 t258 _ (TIs.on HTI) ?side1 ?side2 ?side3 ?side4 A2.out).mono ?_
    (case side1 => exact cU (Kd.R_reads' HO253.out).2.2)
    (case side2 => exact (Kd.R_reads' HO253.out).2.1)
    (case side3 => exact cU (Kd.R_reads' HO256.out).2.2)
    (case side4 => exact (Kd.R_reads' HO256.out).2.1)
    rintro e w55 ⟨v259, rfl, ho0, hb⟩
    refine ⟨_, rfl, ?_⟩
    have n_ := aC (Kd.vT (rU HO253.out) hb) (aC (Kd.vT (rU HO256.out) hb) (aC (Kd.vX ho0 bz) (aE (bs hb))))
    clear HO253 HO256 HB
    obtain ⟨HO253, HO256, HO260, HB⟩ := n_
    (try clear hb)
    (try clear hb2)
    (try clear hk)
    (try clear hi)
    (try clear ho0)
    refine hK.out _ _ trivial (fun hHeld => ?_)
    clear hK K
    refine nm (some 8) ?_
    refine pu 3 5 (bv 8 15) HT_ rfl rfl ?_
    refine pu 4 9 (bv 8 31) HT_ rfl rfl ?_
    refine pu 5 10 (bv 8 63) HT_ rfl rfl ?_
    refine pu 6 1 (bv 8 127) HT_ rfl rfl ?_
    refine pu 7 2 (bv 8 255) HT_ rfl rfl ?_
    refine yO (xS HT_.out (by kernel_rfl)) ?_
    try go_wp2_with (first | (refine gF 12 12 Tryd.func12 #[.int .i64 5, .int .i64 0] rfl rfl ?_; (with_reducible refine (xG.calls k 5 0 t261 t262 _ A3.out).mono ?_); rintro e w56 ⟨v263, rfl, ho0, hb⟩; refine ⟨_, rfl, ?_⟩; have n_ := aC (Kd.R_elder' (rU HO253.out) (Kd.xi ho0) hb) (aC (Kd.R_elder' (rU HO256.out) (Kd.xi ho0) hb) (aC (Kd.vT (rU HO260.out) hb) (aC (Kd.vX (Kd.R_new' (Kd.R_new' ho0 (Kd.xX (rU HO253.out))) (Kd.xX (rU HO256.out))) bz) (aE (bs hb))))); clear HO253 HO256 HO260 HB; obtain ⟨HO253, HO256, HO260, HO264, HB⟩ := n_; obtain ⟨Ao57, co57, eo57⟩ := Kd.wq HO260.out; subst eo57))
    go_ret
    exact ⟨re, bl⟩
  ·obtain rfl := Option.some.inj H
   go_enter Tryd.func13, Tryd.ntmps13
   try go_wp2
   have n_ := aE (vG HB.out)
   clear HB
   have HB := n_
   clear n_
   refine st 8 (fun w' => True) [] (bv 8 0) vI.tab1 vI.bits1 trivial (fun hHeld HT_ HW_ => ?_)
   generalize w.drew = w58 at HB hHeld ⊢
   refine join_ (σ := Value × Value) 6 #[true, true, false, false, false, false, false, false] (fun s_ => [(6, s_.1), (7, s_.2)]) (fun s_ w' => (Kd.R (Kd.int .u8) 5 w' w.heap.size (fun k_ => some k_ ≠ (s_.2 : Value).ownBlock) s_.1 y251) ∧ (Kd.R (Kd.int .u8) 5 w' w.heap.size (fun k_ => some k_ ≠ (s_.1 : Value).ownBlock) s_.2 y254) ∧ (Below w.heap.size w w')) ?_ ?_
   rotate_left
   ·intro hCont
    refine two_ (i := 0) (j := 1) (Ni := some 6) (Nj := some 7) #[true, false, false, false, false, false, false, false] #[false, true, false, false, false, false, false, false] rfl rfl rfl rfl (qm HT_.out (by kernel_rfl)) (by decide) (by decide) (fun K hK => ?_) (fun K hK => ?_)
    ·skip
     refine Kd.xB (Kd.int .u8) _ 5 (by rfl) (N := 6) rfl 22 _ _ rfl 5 rfl rfl Tryd.underlying22 (.int .u8 0) 1 info5 rfl (by decide) (by omega) 0 (ok := fun _ => True) (okp := fun _ => True) rfl (fun _ hk => hk) trivial (by omega) (by omega) (Below.refl _ _) (Nat.le_refl _) ?_
     intro v252 w59 ho60 hb hg_ hnew_
     clear hg_ hnew_
     (first | rw [← Ny251.out] at ho60 | (simp only [Int.reduceToNat] at ho60; rw [← Ny251.out] at ho60))
     have n_ := aC (Kd.vX ho60 bz) (aE (bs hb))
     clear HB
     obtain ⟨HO253, HB⟩ := n_
     clear hb ho60
     refine hK.out _ _ trivial (fun hHeld => ?_)
     clear hK K
     refine nm (some 6) ?_
     refine yz (i := 1) (N := some 7) (bv 8 3) rfl rfl (xq HT_.out (by kernel_rfl)) (by decide) (fun K hK => ?_)
     refine Kd.xB (Kd.int .u8) _ 5 (by rfl) (N := 7) rfl 22 _ _ rfl 5 rfl rfl Tryd.underlying22 (.int .u8 0) 1 info5 rfl (by decide) (by omega) 0 (ok := fun _ => True) (okp := fun _ => True) rfl (fun _ hk => hk) trivial (by omega) (by omega) (Below.refl _ _) (Nat.le_refl _) ?_
     intro v255 w61 ho62 hb hg_ hnew_
     clear hg_ hnew_
     (first | rw [← Ny254.out] at ho62 | (simp only [Int.reduceToNat] at ho62; rw [← Ny254.out] at ho62))
     have n_ := aC (Kd.R_elder' (rU HO253.out) (Kd.xi ho62) hb) (aC (Kd.vX (Kd.R_new' ho62 (Kd.xX (rU HO253.out))) bz) (aE (bs hb)))
     clear HO253 HB
     obtain ⟨HO253, HO256, HB⟩ := n_
     clear hb ho62
     refine hK.out _ _ trivial (fun hHeld => ?_)
     clear hK K
     refine nm (some 7) ?_
     exact z8 (by simp only [zi, Act.put, List.setIfInBounds_toArray, List.set_cons_zero, List.set_cons_succ]) (hCont (v252, v255) _ ⟨(rU (Kd.vY HO253.out (fun _ hk => hk.2))), (rU (Kd.vY HO256.out (fun _ hk => hk.2))), bl⟩)
    ·skip
     refine Kd.xB (Kd.int .u8) _ 5 (by rfl) (N := 7) rfl 22 _ _ rfl 5 rfl rfl Tryd.underlying22 (.int .u8 0) 1 info5 rfl (by decide) (by omega) 0 (ok := fun _ => True) (okp := fun _ => True) rfl (fun _ hk => hk) trivial (by omega) (by omega) (Below.refl _ _) (Nat.le_refl _) ?_
     intro v255 w59 ho60 hb hg_ hnew_
     clear hg_ hnew_
     (first | rw [← Ny254.out] at ho60 | (simp only [Int.reduceToNat] at ho60; rw [← Ny254.out] at ho60))
     have n_ := aC (Kd.vX ho60 bz) (aE (bs hb))
     clear HB
     obtain ⟨HO256, HB⟩ := n_
     clear hb ho60
     refine hK.out _ _ trivial (fun hHeld => ?_)
     clear hK K
     refine nm (some 7) ?_
     refine yz (i := 0) (N := some 6) (bv 8 3) rfl rfl (xq HT_.out (by kernel_rfl)) (by decide) (fun K hK => ?_)
     refine Kd.xB (Kd.int .u8) _ 5 (by rfl) (N := 6) rfl 22 _ _ rfl 5 rfl rfl Tryd.underlying22 (.int .u8 0) 1 info5 rfl (by decide) (by omega) 0 (ok := fun _ => True) (okp := fun _ => True) rfl (fun _ hk => hk) trivial (by omega) (by omega) (Below.refl _ _) (Nat.le_refl _) ?_
     intro v252 w61 ho62 hb hg_ hnew_
     clear hg_ hnew_
     (first | rw [← Ny251.out] at ho62 | (simp only [Int.reduceToNat] at ho62; rw [← Ny251.out] at ho62))
     have n_ := aC (Kd.R_elder' (rU HO256.out) (Kd.xi ho62) hb) (aC (Kd.vX (Kd.R_new' ho62 (Kd.xX (rU HO256.out))) bz) (aE (bs hb)))
     clear HO256 HB
     obtain ⟨HO256, HO253, HB⟩ := n_
     clear hb ho62
     refine hK.out _ _ trivial (fun hHeld => ?_)
     clear hK K
     refine nm (some 6) ?_
     exact z8 (by simp only [zi, Act.put, List.setIfInBounds_toArray, List.set_cons_zero, List.set_cons_succ]) (hCont (v252, v255) _ ⟨(rU (Kd.vY HO253.out (fun _ hk => hk.2))), (rU (Kd.vY HO256.out (fun _ hk => hk.2))), bl⟩)
   rintro ⟨v252, v255⟩ w63 ⟨h0_, h1_, h2_⟩
   have n0_ : Aside0 (Kd.R (Kd.int .u8) 5 w63 w.heap.size (fun k_ => some k_ ≠ (v255 : Value).ownBlock) v252 y251) := ⟨h0_⟩
   have n1_ : Aside0 (Kd.R (Kd.int .u8) 5 w63 w.heap.size (fun k_ => some k_ ≠ (v252 : Value).ownBlock) v255 y254) := ⟨h1_⟩
   have n2_ : Aside0 (Below w.heap.size w w63) := ⟨h2_⟩
   clear HB
   clear h0_ h1_ h2_
   have HO253 := n0_
   have HO256 := n1_
   have HB := n2_
   clear n0_ n1_ n2_
   have hHeld := trivial
   obtain ⟨Ao64, co64, eo64⟩ := Kd.wq HO253.out
   (first | subst eo64 | (injection eo64 with f1_ f2_ f3_; have f4_ := f1_.symm; have f5_ := f3_.symm; clear f1_ f2_ f3_; subst f4_; subst f5_))
   obtain ⟨Ao65, co65, eo65⟩ := Kd.wq HO256.out
   (first | subst eo65 | (injection eo65 with f1_ f2_ f3_; have f4_ := f1_.symm; have f5_ := f3_.symm; clear f1_ f2_ f3_; subst f4_; subst f5_))
   refine z8 (a' := ?_) ?_ ?_
   rotate_left
   ·simp only [zi, Act.put, List.setIfInBounds_toArray, List.set_cons_zero, List.set_cons_succ]
    rfl
   refine yz (i := 2) (N := some 8) (bv 8 7) rfl rfl (xq HT_.out (by kernel_rfl)) (by decide) (fun K hK => ?_)
   refine gK Tryd.func16 rfl #[.slice Ao64 y251.length co64, .slice Ao65 y254.length co65] rfl rfl ?_
   with_reducible refine (wt.calls k _ _ y251 _ _ y254 t257 t258 _ (TIs.on HTI) ?side1 ?side2 ?side3 ?side4 A2.out).mono ?_
   (case side1 => exact cU (Kd.R_reads' HO253.out).2.2)
   (case side2 => exact (Kd.R_reads' HO253.out).2.1)
   (case side3 => exact cU (Kd.R_reads' HO256.out).2.2)
   (case side4 => exact (Kd.R_reads' HO256.out).2.1)
   rintro e w66 ⟨v259, rfl, ho0, hb⟩
   refine ⟨_, rfl, ?_⟩
   have n_ := aC (Kd.vT (rU HO253.out) hb) (aC (Kd.vT (rU HO256.out) hb) (aC (Kd.vX ho0 bz) (aE (bs hb))))
   clear HO253 HO256 HB
   obtain ⟨HO253, HO256, HO260, HB⟩ := n_
   (try clear hb)
   (try clear hb2)
   (try clear hk)
   (try clear hi)
   (try clear ho0)
   refine hK.out _ _ trivial (fun hHeld => ?_)
   clear hK K
   refine nm (some 8) ?_
   refine pu 3 5 (bv 8 15) HT_ rfl rfl ?_
   refine pu 4 9 (bv 8 31) HT_ rfl rfl ?_
   refine pu 5 10 (bv 8 63) HT_ rfl rfl ?_
   refine pu 6 1 (bv 8 127) HT_ rfl rfl ?_
   refine pu 7 2 (bv 8 255) HT_ rfl rfl ?_
   refine yO (xS HT_.out (by kernel_rfl)) ?_
   try go_wp2_with (first | (refine gF 12 12 Tryd.func12 #[.int .i64 5, .int .i64 0] rfl rfl ?_; (with_reducible refine (xG.calls k 5 0 t261 t262 _ A3.out).mono ?_); rintro e w67 ⟨v263, rfl, ho0, hb⟩; refine ⟨_, rfl, ?_⟩; have n_ := aC (Kd.R_elder' (rU HO253.out) (Kd.xi ho0) hb) (aC (Kd.R_elder' (rU HO256.out) (Kd.xi ho0) hb) (aC (Kd.vT (rU HO260.out) hb) (aC (Kd.vX (Kd.R_new' (Kd.R_new' ho0 (Kd.xX (rU HO253.out))) (Kd.xX (rU HO256.out))) bz) (aE (bs hb))))); clear HO253 HO256 HO260 HB; obtain ⟨HO253, HO256, HO260, HO264, HB⟩ := n_))
   go_ret
   exact ⟨re, bl⟩
 ·rw [if_neg c1] at H
  exact absurd H (by simp)
end Go.Proofs.YtknclbodinfbeaaDoor.PRunsSame
