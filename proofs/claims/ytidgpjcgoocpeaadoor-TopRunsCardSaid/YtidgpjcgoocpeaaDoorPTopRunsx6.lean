-- printed (wip/tools/myprint.py)
import Derived.Test.YtidgpjcgoocpeaaDoorPTopRunsx0
import Derived.Test.YtidgpjcgoocpeaaDoorPTopRunsx4
import Derived.Test.YtidgpjcgoocpeaaDoorPTopRunsx5
namespace Go.Proofs.YtidgpjcgoocpeaaDoor.PTopRuns
open Go.RowKit Go.Proofs.YtidgpjcgoocpeaaDoorW.PrintWords Go.Proofs.YtidgpjcgoocpeaaDoorW.PrintLast Go.Proofs.YtidgpjcgoocpeaaDoorW.PrintMore
attribute [local go_sem] max2_int min2_int max_two min_two max_three min_three max_four min_four
set_option linter.unusedVariables false
set_option linter.unusedSimpArgs false
def incunablelaw06_Awake.f (k : Nat)  : Option (Bool) := if 5 ≤ 281474976710656 then ((runs_Modes.f k (List.replicate 5 0) (List.replicate 5 0)).bind fun bt261 => ((runs_RunBits.f k 5 0).bind fun bt265 => (if bt261.2 = 0 then (if (bt261.1.length : Int) = 1 then (if 0 < (bt261.1.length : Int) then (if (rdOf ByteArray.empty bt261.1 0).toList = ([117, 112, 48] : List UInt8) then (if bt265.2 = 0 then ((incunableref02_SameBytes.f k bt265.1 (([0, 0, 1, 0, 0, 1] : List Int))).bind fun t273 => (some t273)) else (some false)) else (some false)) else (none)) else (some false)) else (some false)))) else (none)
theorem incunablelaw06_Awake.mono : ∀ k, LeO (incunablelaw06_Awake.f k ) (incunablelaw06_Awake.f (k + 1) ) := by
 intro  k
 unfold incunablelaw06_Awake.f
 repeat' first
   | (with_reducible exact incunableref02_SameBytes.mono _ _ _)
   | (with_reducible exact runs_Modes.mono _ _ _)
   | (with_reducible exact runs_RunBits.mono _ _ _)
   | (with_reducible first | exact LeO.refl _ | exact LeO.none _ | refine LeO.ite ?_ ?_ | refine LeO.bind ?_ (fun _ => ?_))
def incunablelaw06_Awake.T1 : Bool × List (List Nat × List Nat) := (true, [([], []), ([], []), ([0, 1], [0, 1]), ([2], [2]), ([3], [3]), ([3], [3]), ([4, 2, 0, 1, 2, 3, 4], [4]), ([5, 6, 0, 1, 2, 3, 4, 5, 6], [5])])
def incunablelaw06_Awake.B1 : List Nat := [0, 0, 3, 7, 15, 15, 31, 127]
theorem incunablelaw06_Awake.tab1 : rtab .any (opsOf Tryd.f5 1) = incunablelaw06_Awake.T1 := by kernel_rfl
theorem incunablelaw06_Awake.bits1 : waitsOk incunablelaw06_Awake.T1.2 incunablelaw06_Awake.B1 = true := by kernel_rfl
set_option maxHeartbeats 8000000 in
set_option maxRecDepth 100000 in
theorem incunablelaw06_Awake.calls (k : Nat)  (r : Bool) (w : World) (hT0 : TIs w) (h : incunablelaw06_Awake.f k  = some r) :
  Calls Tryd.prog 5 #[] w fun e w' => e = .returned (.bool r) ∧ Below w.heap.size w w' := by
 have HTI := Aside0.mk hT0
 clear hT0
 have HB := Aside0.mk (Below.refl w.heap.size w)
 have H := h
 unfold incunablelaw06_Awake.f at H
 clear h
 by_cases c1 : 5 ≤ 281474976710656
 ·rw [if_pos c1] at H
  have c1b0 := eq_true c1
  have c1b1 := decide_eq_true c1
  clear c1
  obtain ⟨y255, hy_⟩ : ∃ y_ : List Int, y_ = (List.replicate 5 0) := ⟨_, rfl⟩
  replace H : ((runs_Modes.f k y255 (List.replicate 5 0)).bind fun bt261 => ((runs_RunBits.f k 5 0).bind fun bt265 => (if bt261.2 = 0 then (if (bt261.1.length : Int) = 1 then (if 0 < (bt261.1.length : Int) then (if (rdOf ByteArray.empty bt261.1 0).toList = ([117, 112, 48] : List UInt8) then (if bt265.2 = 0 then ((incunableref02_SameBytes.f k bt265.1 (([0, 0, 1, 0, 0, 1] : List Int))).bind fun t273 => (some t273)) else (some false)) else (some false)) else (none)) else (some false)) else (some false)))) = some r := rh
  have Ny255 := aE hy_
  clear hy_
  obtain ⟨y258, hy_⟩ : ∃ y_ : List Int, y_ = (List.replicate 5 0) := ⟨_, rfl⟩
  replace H : ((runs_Modes.f k y255 y258).bind fun bt261 => ((runs_RunBits.f k 5 0).bind fun bt265 => (if bt261.2 = 0 then (if (bt261.1.length : Int) = 1 then (if 0 < (bt261.1.length : Int) then (if (rdOf ByteArray.empty bt261.1 0).toList = ([117, 112, 48] : List UInt8) then (if bt265.2 = 0 then ((incunableref02_SameBytes.f k bt265.1 (([0, 0, 1, 0, 0, 1] : List Int))).bind fun t273 => (some t273)) else (some false)) else (some false)) else (none)) else (some false)) else (some false)))) = some r := rh
  have Ny258 := aE hy_
  clear hy_
  obtain ⟨⟨t261, t262⟩, A2, H⟩ := oB H
  try dsimp only at H
  obtain ⟨⟨t265, t266⟩, A3, H⟩ := oB H
  try dsimp only at H
  rcases iE H with H1 | H1 <;> clear H <;> obtain ⟨H, c4b0, c4b1, c4⟩ := H1
  ·rcases iE H with H1 | H1 <;> clear H <;> obtain ⟨H, c5b0, c5b1, c5⟩ := H1
   ·by_cases c6 : 0 < (t261.length : Int)
    ·rw [if_pos c6] at H
     have c6b0 := decide_eq_true c6
     have c6b1 : decide (0 < t261.length) = true := decide_eq_true (by omega)
     clear c6
     rcases iE H with H1 | H1 <;> clear H <;> obtain ⟨H, c7b0, c7b1, c7⟩ := H1
     ·rcases iE H with H1 | H1 <;> clear H <;> obtain ⟨H, c8b0, c8b1, c8⟩ := H1
      ·obtain ⟨y270, hy_⟩ : ∃ y_ : List Int, y_ = (([0, 0, 1, 0, 0, 1] : List Int)) := ⟨_, rfl⟩
       replace H : ((incunableref02_SameBytes.f k t265 y270).bind fun t273 => (some t273)) = some r := rh
       have Ny270 := aE hy_
       clear hy_
       obtain ⟨t273, A9, H⟩ := oB H
       try dsimp only at H
       obtain rfl := Option.some.inj H
       go_enter Tryd.func5, Tryd.ntmps5
       try go_wp2
       have n_ := aE (below_drew1 HB.out)
       clear HB
       have HB := n_
       clear n_
       refine st 8 (fun w' => True) [] (bv 8 0) incunablelaw06_Awake.tab1 incunablelaw06_Awake.bits1 trivial (fun hHeld HT_ HW_ => ?_)
       generalize w.drew = w10 at HB hHeld ⊢
       refine join_ (σ := Value × Value) 6 #[true, true, false, false, false, false, false, false] (fun s_ => [(6, s_.1), (7, s_.2)]) (fun s_ w' => (Kd.R (Kd.int .u8) 5 w' w.heap.size (fun k_ => some k_ ≠ (s_.2 : Value).ownBlock) s_.1 y255) ∧ (Kd.R (Kd.int .u8) 5 w' w.heap.size (fun k_ => some k_ ≠ (s_.1 : Value).ownBlock) s_.2 y258) ∧ (Below w.heap.size w w')) ?_ ?_
       rotate_left
       ·intro hCont
        refine two_ (i := 0) (j := 1) (Ni := some 6) (Nj := some 7) #[true, false, false, false, false, false, false, false] #[false, true, false, false, false, false, false, false] rfl rfl rfl rfl (two_of HT_.out (by kernel_rfl)) (by decide) (by decide) (fun K hK => ?_) (fun K hK => ?_)
        ·skip
         refine Kd.R_make_step (Kd.int .u8) _ 5 (by rfl) (N := 6) rfl 22 _ _ rfl 5 rfl rfl Tryd.underlying22 (.int .u8 0) 1 info5 rfl (by decide) (by omega) 0 (ok := fun _ => True) (okp := fun _ => True) rfl (fun _ hk => hk) trivial (by omega) (by omega) (Below.refl _ _) (Nat.le_refl _) ?_
         intro v256 w11 ho12 hb hg_ hnew_
         clear hg_ hnew_
         (first | rw [← Ny255.out] at ho12 | (simp only [Int.reduceToNat] at ho12; rw [← Ny255.out] at ho12))
         have n_ := aC (Kd.R_lower ho12 bz) (aE (bs hb))
         clear HB
         obtain ⟨HO257, HB⟩ := n_
         clear hb ho12
         refine hK.out _ _ trivial (fun hHeld => ?_)
         clear hK K
         refine nm (some 6) ?_
         refine one_ (i := 1) (N := some 7) (bv 8 3) rfl rfl (one_of HT_.out (by kernel_rfl)) (by decide) (fun K hK => ?_)
         refine Kd.R_make_step (Kd.int .u8) _ 5 (by rfl) (N := 7) rfl 22 _ _ rfl 5 rfl rfl Tryd.underlying22 (.int .u8 0) 1 info5 rfl (by decide) (by omega) 0 (ok := fun _ => True) (okp := fun _ => True) rfl (fun _ hk => hk) trivial (by omega) (by omega) (Below.refl _ _) (Nat.le_refl _) ?_
         intro v259 w13 ho14 hb hg_ hnew_
         clear hg_ hnew_
         (first | rw [← Ny258.out] at ho14 | (simp only [Int.reduceToNat] at ho14; rw [← Ny258.out] at ho14))
         have n_ := aC (Kd.R_elder' (rU HO257.out) (Kd.R_base ho14) hb) (aC (Kd.R_lower (Kd.R_new' ho14 (Kd.R_lt (rU HO257.out))) bz) (aE (bs hb)))
         clear HO257 HB
         obtain ⟨HO257, HO260, HB⟩ := n_
         clear hb ho14
         refine hK.out _ _ trivial (fun hHeld => ?_)
         clear hK K
         refine nm (some 7) ?_
         exact norm_ (by simp only [putAll, Act.put, List.setIfInBounds_toArray, List.set_cons_zero, List.set_cons_succ]) (hCont (v256, v259) _ ⟨(rU (Kd.R_mono HO257.out (fun _ hk => hk.2))), (rU (Kd.R_mono HO260.out (fun _ hk => hk.2))), bl⟩)
        ·skip
         refine Kd.R_make_step (Kd.int .u8) _ 5 (by rfl) (N := 7) rfl 22 _ _ rfl 5 rfl rfl Tryd.underlying22 (.int .u8 0) 1 info5 rfl (by decide) (by omega) 0 (ok := fun _ => True) (okp := fun _ => True) rfl (fun _ hk => hk) trivial (by omega) (by omega) (Below.refl _ _) (Nat.le_refl _) ?_
         intro v259 w11 ho12 hb hg_ hnew_
         clear hg_ hnew_
         (first | rw [← Ny258.out] at ho12 | (simp only [Int.reduceToNat] at ho12; rw [← Ny258.out] at ho12))
         have n_ := aC (Kd.R_lower ho12 bz) (aE (bs hb))
         clear HB
         obtain ⟨HO260, HB⟩ := n_
         clear hb ho12
         refine hK.out _ _ trivial (fun hHeld => ?_)
         clear hK K
         refine nm (some 7) ?_
         refine one_ (i := 0) (N := some 6) (bv 8 3) rfl rfl (one_of HT_.out (by kernel_rfl)) (by decide) (fun K hK => ?_)
         refine Kd.R_make_step (Kd.int .u8) _ 5 (by rfl) (N := 6) rfl 22 _ _ rfl 5 rfl rfl Tryd.underlying22 (.int .u8 0) 1 info5 rfl (by decide) (by omega) 0 (ok := fun _ => True) (okp := fun _ => True) rfl (fun _ hk => hk) trivial (by omega) (by omega) (Below.refl _ _) (Nat.le_refl _) ?_
         intro v256 w13 ho14 hb hg_ hnew_
         clear hg_ hnew_
         (first | rw [← Ny255.out] at ho14 | (simp only [Int.reduceToNat] at ho14; rw [← Ny255.out] at ho14))
         have n_ := aC (Kd.R_elder' (rU HO260.out) (Kd.R_base ho14) hb) (aC (Kd.R_lower (Kd.R_new' ho14 (Kd.R_lt (rU HO260.out))) bz) (aE (bs hb)))
         clear HO260 HB
         obtain ⟨HO260, HO257, HB⟩ := n_
         clear hb ho14
         refine hK.out _ _ trivial (fun hHeld => ?_)
         clear hK K
         refine nm (some 6) ?_
         exact norm_ (by simp only [putAll, Act.put, List.setIfInBounds_toArray, List.set_cons_zero, List.set_cons_succ]) (hCont (v256, v259) _ ⟨(rU (Kd.R_mono HO257.out (fun _ hk => hk.2))), (rU (Kd.R_mono HO260.out (fun _ hk => hk.2))), bl⟩)
       rintro ⟨v256, v259⟩ w15 ⟨h0_, h1_, h2_⟩
       have n0_ : Aside0 (Kd.R (Kd.int .u8) 5 w15 w.heap.size (fun k_ => some k_ ≠ (v259 : Value).ownBlock) v256 y255) := ⟨h0_⟩
       have n1_ : Aside0 (Kd.R (Kd.int .u8) 5 w15 w.heap.size (fun k_ => some k_ ≠ (v256 : Value).ownBlock) v259 y258) := ⟨h1_⟩
       have n2_ : Aside0 (Below w.heap.size w w15) := ⟨h2_⟩
       clear HB
       clear h0_ h1_ h2_
       have HO257 := n0_
       have HO260 := n1_
       have HB := n2_
       clear n0_ n1_ n2_
       have hHeld := trivial
       obtain ⟨Ao16, co16, eo16⟩ := Kd.R_slice HO257.out
       (first | subst eo16 | (injection eo16 with f1_ f2_ f3_; have f4_ := f1_.symm; have f5_ := f3_.symm; clear f1_ f2_ f3_; subst f4_; subst f5_))
       obtain ⟨Ao17, co17, eo17⟩ := Kd.R_slice HO260.out
       (first | subst eo17 | (injection eo17 with f1_ f2_ f3_; have f4_ := f1_.symm; have f5_ := f3_.symm; clear f1_ f2_ f3_; subst f4_; subst f5_))
       refine norm_ (a' := ?_) ?_ ?_
       rotate_left
       ·simp only [putAll, Act.put, List.setIfInBounds_toArray, List.set_cons_zero, List.set_cons_succ]
        rfl
       refine one_ (i := 2) (N := some 8) (bv 8 7) rfl rfl (one_of HT_.out (by kernel_rfl)) (by decide) (fun K hK => ?_)
       refine gK Tryd.func19 rfl #[.slice Ao16 y255.length co16, .slice Ao17 y258.length co17] rfl rfl ?_
       with_reducible refine (runs_Modes.calls k _ _ y255 _ _ y258 t261 t262 _ (TIs.on HTI) ?side1 ?side2 ?side3 ?side4 A2.out).mono ?_
       (case side1 => exact cU (Kd.R_reads' HO257.out).2.2)
       (case side2 => exact (Kd.R_reads' HO257.out).2.1)
       (case side3 => exact cU (Kd.R_reads' HO260.out).2.2)
       (case side4 => exact (Kd.R_reads' HO260.out).2.1)
       rintro e w18 ⟨v263, rfl, ho0, hb⟩
       refine ⟨_, rfl, ?_⟩
       have n_ := aC (Kd.R_below (rU HO257.out) hb) (aC (Kd.R_below (rU HO260.out) hb) (aC (Kd.R_lower ho0 bz) (aE (bs hb))))
       clear HO257 HO260 HB
       obtain ⟨HO257, HO260, HO264, HB⟩ := n_
       (try clear hb)
       (try clear hb2)
       (try clear hk)
       (try clear hi)
       (try clear ho0)
       refine hK.out _ _ trivial (fun hHeld => ?_)
       clear hK K
       refine nm (some 8) ?_
       refine pu 3 5 (bv 8 15) HT_ rfl rfl ?_
       refine pu 4 9 (bv 8 31) HT_ rfl rfl ?_
       refine pu 5 10 (bv 8 63) HT_ rfl rfl ?_
       refine pu 6 1 (bv 8 127) HT_ rfl rfl ?_
       refine pu 7 2 (bv 8 255) HT_ rfl rfl ?_
       refine done_ (done_of HT_.out (by kernel_rfl)) ?_
       try go_wp2_with (first | (refine gF 7 12 Tryd.func7 #[.int .i64 5, .int .i64 0] rfl rfl ?_; (with_reducible refine (runs_RunBits.calls k 5 0 t265 t266 _ A3.out).mono ?_); rintro e w19 ⟨v267, rfl, ho0, hb⟩; refine ⟨_, rfl, ?_⟩; have n_ := aC (Kd.R_elder' (rU HO257.out) (Kd.R_base ho0) hb) (aC (Kd.R_elder' (rU HO260.out) (Kd.R_base ho0) hb) (aC (Kd.R_below (rU HO264.out) hb) (aC (Kd.R_lower (Kd.R_new' (Kd.R_new' ho0 (Kd.R_lt (rU HO257.out))) (Kd.R_lt (rU HO260.out))) bz) (aE (bs hb))))); clear HO257 HO260 HO264 HB; obtain ⟨HO257, HO260, HO264, HO268, HB⟩ := n_; obtain ⟨Ao20, co20, eo20⟩ := Kd.R_slice HO264.out; subst eo20; have p269 : 0 ≤ (0 : Int) := (by omega); have q269 : 0 < (t261.length : Int) := dt; obtain ⟨ad269, e269, hx269_0⟩ := Kd.at_string (Kd.R_reads' HO264.out).2.2 0 p269 q269; cases e269; have qi269 : (0 < t261.length) = True := eq_true (by omega); (try rw [show ((0 : Int)).toNat = 0 from rfl] at hx269_0); (try rw [Addr.add_zero'] at hx269_0); replace p269 := eq_true p269; replace q269 := eq_true q269) | ((with_reducible refine gd 34 rfl ?_); (try (refine gate_guard (by rfl) ?_; dsimp only)); refine Kd.R_lit (Kd.int .u8) _ 5 ?hg (N := 34) ?hd (xs := ([0, 0, 1, 0, 0, 1] : List Int)) (inner := [.int .u8 0, .int .u8 0, .int .u8 1, .int .u8 0, .int .u8 0, .int .u8 1]) (ok := fun _ => True) (okp := fun _ => True) ?hr ?hp (fun _ hk => hk) trivial (Below.refl _ _) (Nat.le_refl _) (by simp) ?_; (case hd => rfl); (case hg => rfl); (case hr => first | (go_simp; done) | (go_simp; rfl)); (case hp => exact (Reps.one (show Kd.M (Kd.int .u8) _ _ _ 0 [.int .u8 0] from rfl) (Reps.one (show Kd.M (Kd.int .u8) _ _ _ 0 [.int .u8 0] from rfl) (Reps.one (show Kd.M (Kd.int .u8) _ _ _ 1 [.int .u8 1] from rfl) (Reps.one (show Kd.M (Kd.int .u8) _ _ _ 0 [.int .u8 0] from rfl) (Reps.one (show Kd.M (Kd.int .u8) _ _ _ 0 [.int .u8 0] from rfl) (Reps.one (show Kd.M (Kd.int .u8) _ _ _ 1 [.int .u8 1] from rfl) (Reps.none _ _)))))))); intro v271 w21 ho22 hb hg_ hnew_; clear hg_ hnew_; (first | rw [← Ny270.out] at ho22 | (simp only [Int.reduceToNat] at ho22; rw [← Ny270.out] at ho22)); have n_ := aC (Kd.R_elder' (rU HO257.out) (Kd.R_base ho22) hb) (aC (Kd.R_elder' (rU HO260.out) (Kd.R_base ho22) hb) (aC (Kd.R_below (rU HO264.out) hb) (aC (Kd.R_elder' (rU HO268.out) (Kd.R_base ho22) hb) (aC (Kd.R_lower (Kd.R_new' (Kd.R_new' (Kd.R_new' ho22 (Kd.R_lt (rU HO257.out))) (Kd.R_lt (rU HO260.out))) (Kd.R_lt (rU HO268.out))) bz) (aE (bs hb)))))); clear HO257 HO260 HO264 HO268 HB; obtain ⟨HO257, HO260, HO264, HO268, HO272, HB⟩ := n_; clear hb ho22; obtain ⟨Ao23, co23, eo23⟩ := Kd.R_slice HO268.out; subst eo23; obtain ⟨Ao24, co24, eo24⟩ := Kd.R_slice HO272.out; subst eo24) | (go_at_call 10; (with_reducible refine (incunableref02_SameBytes.calls k _ _ t265 _ _ y270 t273 _ ?side1 ?side2 ?side3 ?side4 A9.out).mono ?_); (case side1 => exact cU (Kd.R_reads' HO268.out).2.2); (case side2 => exact (Kd.R_reads' HO268.out).2.1); (case side3 => exact cU (Kd.R_reads' HO272.out).2.2); (case side4 => exact (Kd.R_reads' HO272.out).2.1); rintro e w' ⟨rfl, ⟨nd, rfl⟩⟩))
       go_ret
       exact ⟨re, bl⟩
      ·obtain rfl := Option.some.inj H
       go_enter Tryd.func5, Tryd.ntmps5
       try go_wp2
       have n_ := aE (below_drew1 HB.out)
       clear HB
       have HB := n_
       clear n_
       refine st 8 (fun w' => True) [] (bv 8 0) incunablelaw06_Awake.tab1 incunablelaw06_Awake.bits1 trivial (fun hHeld HT_ HW_ => ?_)
       generalize w.drew = w25 at HB hHeld ⊢
       refine join_ (σ := Value × Value) 6 #[true, true, false, false, false, false, false, false] (fun s_ => [(6, s_.1), (7, s_.2)]) (fun s_ w' => (Kd.R (Kd.int .u8) 5 w' w.heap.size (fun k_ => some k_ ≠ (s_.2 : Value).ownBlock) s_.1 y255) ∧ (Kd.R (Kd.int .u8) 5 w' w.heap.size (fun k_ => some k_ ≠ (s_.1 : Value).ownBlock) s_.2 y258) ∧ (Below w.heap.size w w')) ?_ ?_
       rotate_left
       ·intro hCont
        refine two_ (i := 0) (j := 1) (Ni := some 6) (Nj := some 7) #[true, false, false, false, false, false, false, false] #[false, true, false, false, false, false, false, false] rfl rfl rfl rfl (two_of HT_.out (by kernel_rfl)) (by decide) (by decide) (fun K hK => ?_) (fun K hK => ?_)
        ·skip
         refine Kd.R_make_step (Kd.int .u8) _ 5 (by rfl) (N := 6) rfl 22 _ _ rfl 5 rfl rfl Tryd.underlying22 (.int .u8 0) 1 info5 rfl (by decide) (by omega) 0 (ok := fun _ => True) (okp := fun _ => True) rfl (fun _ hk => hk) trivial (by omega) (by omega) (Below.refl _ _) (Nat.le_refl _) ?_
         intro v256 w26 ho27 hb hg_ hnew_
         clear hg_ hnew_
         (first | rw [← Ny255.out] at ho27 | (simp only [Int.reduceToNat] at ho27; rw [← Ny255.out] at ho27))
         have n_ := aC (Kd.R_lower ho27 bz) (aE (bs hb))
         clear HB
         obtain ⟨HO257, HB⟩ := n_
         clear hb ho27
         refine hK.out _ _ trivial (fun hHeld => ?_)
         clear hK K
         refine nm (some 6) ?_
         refine one_ (i := 1) (N := some 7) (bv 8 3) rfl rfl (one_of HT_.out (by kernel_rfl)) (by decide) (fun K hK => ?_)
         refine Kd.R_make_step (Kd.int .u8) _ 5 (by rfl) (N := 7) rfl 22 _ _ rfl 5 rfl rfl Tryd.underlying22 (.int .u8 0) 1 info5 rfl (by decide) (by omega) 0 (ok := fun _ => True) (okp := fun _ => True) rfl (fun _ hk => hk) trivial (by omega) (by omega) (Below.refl _ _) (Nat.le_refl _) ?_
         intro v259 w28 ho29 hb hg_ hnew_
         clear hg_ hnew_
         (first | rw [← Ny258.out] at ho29 | (simp only [Int.reduceToNat] at ho29; rw [← Ny258.out] at ho29))
         have n_ := aC (Kd.R_elder' (rU HO257.out) (Kd.R_base ho29) hb) (aC (Kd.R_lower (Kd.R_new' ho29 (Kd.R_lt (rU HO257.out))) bz) (aE (bs hb)))
         clear HO257 HB
         obtain ⟨HO257, HO260, HB⟩ := n_
         clear hb ho29
         refine hK.out _ _ trivial (fun hHeld => ?_)
         clear hK K
         refine nm (some 7) ?_
         exact norm_ (by simp only [putAll, Act.put, List.setIfInBounds_toArray, List.set_cons_zero, List.set_cons_succ]) (hCont (v256, v259) _ ⟨(rU (Kd.R_mono HO257.out (fun _ hk => hk.2))), (rU (Kd.R_mono HO260.out (fun _ hk => hk.2))), bl⟩)
        ·skip
         refine Kd.R_make_step (Kd.int .u8) _ 5 (by rfl) (N := 7) rfl 22 _ _ rfl 5 rfl rfl Tryd.underlying22 (.int .u8 0) 1 info5 rfl (by decide) (by omega) 0 (ok := fun _ => True) (okp := fun _ => True) rfl (fun _ hk => hk) trivial (by omega) (by omega) (Below.refl _ _) (Nat.le_refl _) ?_
         intro v259 w26 ho27 hb hg_ hnew_
         clear hg_ hnew_
         (first | rw [← Ny258.out] at ho27 | (simp only [Int.reduceToNat] at ho27; rw [← Ny258.out] at ho27))
         have n_ := aC (Kd.R_lower ho27 bz) (aE (bs hb))
         clear HB
         obtain ⟨HO260, HB⟩ := n_
         clear hb ho27
         refine hK.out _ _ trivial (fun hHeld => ?_)
         clear hK K
         refine nm (some 7) ?_
         refine one_ (i := 0) (N := some 6) (bv 8 3) rfl rfl (one_of HT_.out (by kernel_rfl)) (by decide) (fun K hK => ?_)
         refine Kd.R_make_step (Kd.int .u8) _ 5 (by rfl) (N := 6) rfl 22 _ _ rfl 5 rfl rfl Tryd.underlying22 (.int .u8 0) 1 info5 rfl (by decide) (by omega) 0 (ok := fun _ => True) (okp := fun _ => True) rfl (fun _ hk => hk) trivial (by omega) (by omega) (Below.refl _ _) (Nat.le_refl _) ?_
         intro v256 w28 ho29 hb hg_ hnew_
         clear hg_ hnew_
         (first | rw [← Ny255.out] at ho29 | (simp only [Int.reduceToNat] at ho29; rw [← Ny255.out] at ho29))
         have n_ := aC (Kd.R_elder' (rU HO260.out) (Kd.R_base ho29) hb) (aC (Kd.R_lower (Kd.R_new' ho29 (Kd.R_lt (rU HO260.out))) bz) (aE (bs hb)))
         clear HO260 HB
         obtain ⟨HO260, HO257, HB⟩ := n_
         clear hb ho29
         refine hK.out _ _ trivial (fun hHeld => ?_)
         clear hK K
         refine nm (some 6) ?_
         exact norm_ (by simp only [putAll, Act.put, List.setIfInBounds_toArray, List.set_cons_zero, List.set_cons_succ]) (hCont (v256, v259) _ ⟨(rU (Kd.R_mono HO257.out (fun _ hk => hk.2))), (rU (Kd.R_mono HO260.out (fun _ hk => hk.2))), bl⟩)
       rintro ⟨v256, v259⟩ w30 ⟨h0_, h1_, h2_⟩
       have n0_ : Aside0 (Kd.R (Kd.int .u8) 5 w30 w.heap.size (fun k_ => some k_ ≠ (v259 : Value).ownBlock) v256 y255) := ⟨h0_⟩
       have n1_ : Aside0 (Kd.R (Kd.int .u8) 5 w30 w.heap.size (fun k_ => some k_ ≠ (v256 : Value).ownBlock) v259 y258) := ⟨h1_⟩
       have n2_ : Aside0 (Below w.heap.size w w30) := ⟨h2_⟩
       clear HB
       clear h0_ h1_ h2_
       have HO257 := n0_
       have HO260 := n1_
       have HB := n2_
       clear n0_ n1_ n2_
       have hHeld := trivial
       obtain ⟨Ao31, co31, eo31⟩ := Kd.R_slice HO257.out
       (first | subst eo31 | (injection eo31 with f1_ f2_ f3_; have f4_ := f1_.symm; have f5_ := f3_.symm; clear f1_ f2_ f3_; subst f4_; subst f5_))
       obtain ⟨Ao32, co32, eo32⟩ := Kd.R_slice HO260.out
       (first | subst eo32 | (injection eo32 with f1_ f2_ f3_; have f4_ := f1_.symm; have f5_ := f3_.symm; clear f1_ f2_ f3_; subst f4_; subst f5_))
       refine norm_ (a' := ?_) ?_ ?_
       rotate_left
       ·simp only [putAll, Act.put, List.setIfInBounds_toArray, List.set_cons_zero, List.set_cons_succ]
        rfl
       refine one_ (i := 2) (N := some 8) (bv 8 7) rfl rfl (one_of HT_.out (by kernel_rfl)) (by decide) (fun K hK => ?_)
       refine gK Tryd.func19 rfl #[.slice Ao31 y255.length co31, .slice Ao32 y258.length co32] rfl rfl ?_
       with_reducible refine (runs_Modes.calls k _ _ y255 _ _ y258 t261 t262 _ (TIs.on HTI) ?side1 ?side2 ?side3 ?side4 A2.out).mono ?_
       (case side1 => exact cU (Kd.R_reads' HO257.out).2.2)
       (case side2 => exact (Kd.R_reads' HO257.out).2.1)
       (case side3 => exact cU (Kd.R_reads' HO260.out).2.2)
       (case side4 => exact (Kd.R_reads' HO260.out).2.1)
       rintro e w33 ⟨v263, rfl, ho0, hb⟩
       refine ⟨_, rfl, ?_⟩
       have n_ := aC (Kd.R_below (rU HO257.out) hb) (aC (Kd.R_below (rU HO260.out) hb) (aC (Kd.R_lower ho0 bz) (aE (bs hb))))
       clear HO257 HO260 HB
       obtain ⟨HO257, HO260, HO264, HB⟩ := n_
       (try clear hb)
       (try clear hb2)
       (try clear hk)
       (try clear hi)
       (try clear ho0)
       refine hK.out _ _ trivial (fun hHeld => ?_)
       clear hK K
       refine nm (some 8) ?_
       refine pu 3 5 (bv 8 15) HT_ rfl rfl ?_
       refine pu 4 9 (bv 8 31) HT_ rfl rfl ?_
       refine pu 5 10 (bv 8 63) HT_ rfl rfl ?_
       refine pu 6 1 (bv 8 127) HT_ rfl rfl ?_
       refine pu 7 2 (bv 8 255) HT_ rfl rfl ?_
       refine done_ (done_of HT_.out (by kernel_rfl)) ?_
       try go_wp2_with (first | (refine gF 7 12 Tryd.func7 #[.int .i64 5, .int .i64 0] rfl rfl ?_; (with_reducible refine (runs_RunBits.calls k 5 0 t265 t266 _ A3.out).mono ?_); rintro e w34 ⟨v267, rfl, ho0, hb⟩; refine ⟨_, rfl, ?_⟩; have n_ := aC (Kd.R_elder' (rU HO257.out) (Kd.R_base ho0) hb) (aC (Kd.R_elder' (rU HO260.out) (Kd.R_base ho0) hb) (aC (Kd.R_below (rU HO264.out) hb) (aC (Kd.R_lower (Kd.R_new' (Kd.R_new' ho0 (Kd.R_lt (rU HO257.out))) (Kd.R_lt (rU HO260.out))) bz) (aE (bs hb))))); clear HO257 HO260 HO264 HB; obtain ⟨HO257, HO260, HO264, HO268, HB⟩ := n_; obtain ⟨Ao35, co35, eo35⟩ := Kd.R_slice HO264.out; subst eo35; have p269 : 0 ≤ (0 : Int) := (by omega); have q269 : 0 < (t261.length : Int) := dt; obtain ⟨ad269, e269, hx269_0⟩ := Kd.at_string (Kd.R_reads' HO264.out).2.2 0 p269 q269; cases e269; have qi269 : (0 < t261.length) = True := eq_true (by omega); (try rw [show ((0 : Int)).toNat = 0 from rfl] at hx269_0); (try rw [Addr.add_zero'] at hx269_0); replace p269 := eq_true p269; replace q269 := eq_true q269))
       go_ret
       exact ⟨re, bl⟩
     ·obtain rfl := Option.some.inj H
      go_enter Tryd.func5, Tryd.ntmps5
      try go_wp2
      have n_ := aE (below_drew1 HB.out)
      clear HB
      have HB := n_
      clear n_
      refine st 8 (fun w' => True) [] (bv 8 0) incunablelaw06_Awake.tab1 incunablelaw06_Awake.bits1 trivial (fun hHeld HT_ HW_ => ?_)
      generalize w.drew = w36 at HB hHeld ⊢
      refine join_ (σ := Value × Value) 6 #[true, true, false, false, false, false, false, false] (fun s_ => [(6, s_.1), (7, s_.2)]) (fun s_ w' => (Kd.R (Kd.int .u8) 5 w' w.heap.size (fun k_ => some k_ ≠ (s_.2 : Value).ownBlock) s_.1 y255) ∧ (Kd.R (Kd.int .u8) 5 w' w.heap.size (fun k_ => some k_ ≠ (s_.1 : Value).ownBlock) s_.2 y258) ∧ (Below w.heap.size w w')) ?_ ?_
      rotate_left
      ·intro hCont
       refine two_ (i := 0) (j := 1) (Ni := some 6) (Nj := some 7) #[true, false, false, false, false, false, false, false] #[false, true, false, false, false, false, false, false] rfl rfl rfl rfl (two_of HT_.out (by kernel_rfl)) (by decide) (by decide) (fun K hK => ?_) (fun K hK => ?_)
       ·skip
        refine Kd.R_make_step (Kd.int .u8) _ 5 (by rfl) (N := 6) rfl 22 _ _ rfl 5 rfl rfl Tryd.underlying22 (.int .u8 0) 1 info5 rfl (by decide) (by omega) 0 (ok := fun _ => True) (okp := fun _ => True) rfl (fun _ hk => hk) trivial (by omega) (by omega) (Below.refl _ _) (Nat.le_refl _) ?_
        intro v256 w37 ho38 hb hg_ hnew_
        clear hg_ hnew_
        (first | rw [← Ny255.out] at ho38 | (simp only [Int.reduceToNat] at ho38; rw [← Ny255.out] at ho38))
        have n_ := aC (Kd.R_lower ho38 bz) (aE (bs hb))
        clear HB
        obtain ⟨HO257, HB⟩ := n_
        clear hb ho38
        refine hK.out _ _ trivial (fun hHeld => ?_)
        clear hK K
        refine nm (some 6) ?_
        refine one_ (i := 1) (N := some 7) (bv 8 3) rfl rfl (one_of HT_.out (by kernel_rfl)) (by decide) (fun K hK => ?_)
        refine Kd.R_make_step (Kd.int .u8) _ 5 (by rfl) (N := 7) rfl 22 _ _ rfl 5 rfl rfl Tryd.underlying22 (.int .u8 0) 1 info5 rfl (by decide) (by omega) 0 (ok := fun _ => True) (okp := fun _ => True) rfl (fun _ hk => hk) trivial (by omega) (by omega) (Below.refl _ _) (Nat.le_refl _) ?_
        intro v259 w39 ho40 hb hg_ hnew_
        clear hg_ hnew_
        (first | rw [← Ny258.out] at ho40 | (simp only [Int.reduceToNat] at ho40; rw [← Ny258.out] at ho40))
        have n_ := aC (Kd.R_elder' (rU HO257.out) (Kd.R_base ho40) hb) (aC (Kd.R_lower (Kd.R_new' ho40 (Kd.R_lt (rU HO257.out))) bz) (aE (bs hb)))
        clear HO257 HB
        obtain ⟨HO257, HO260, HB⟩ := n_
        clear hb ho40
        refine hK.out _ _ trivial (fun hHeld => ?_)
        clear hK K
        refine nm (some 7) ?_
        exact norm_ (by simp only [putAll, Act.put, List.setIfInBounds_toArray, List.set_cons_zero, List.set_cons_succ]) (hCont (v256, v259) _ ⟨(rU (Kd.R_mono HO257.out (fun _ hk => hk.2))), (rU (Kd.R_mono HO260.out (fun _ hk => hk.2))), bl⟩)
       ·skip
        refine Kd.R_make_step (Kd.int .u8) _ 5 (by rfl) (N := 7) rfl 22 _ _ rfl 5 rfl rfl Tryd.underlying22 (.int .u8 0) 1 info5 rfl (by decide) (by omega) 0 (ok := fun _ => True) (okp := fun _ => True) rfl (fun _ hk => hk) trivial (by omega) (by omega) (Below.refl _ _) (Nat.le_refl _) ?_
        intro v259 w37 ho38 hb hg_ hnew_
        clear hg_ hnew_
        (first | rw [← Ny258.out] at ho38 | (simp only [Int.reduceToNat] at ho38; rw [← Ny258.out] at ho38))
        have n_ := aC (Kd.R_lower ho38 bz) (aE (bs hb))
        clear HB
        obtain ⟨HO260, HB⟩ := n_
        clear hb ho38
        refine hK.out _ _ trivial (fun hHeld => ?_)
        clear hK K
        refine nm (some 7) ?_
        refine one_ (i := 0) (N := some 6) (bv 8 3) rfl rfl (one_of HT_.out (by kernel_rfl)) (by decide) (fun K hK => ?_)
        refine Kd.R_make_step (Kd.int .u8) _ 5 (by rfl) (N := 6) rfl 22 _ _ rfl 5 rfl rfl Tryd.underlying22 (.int .u8 0) 1 info5 rfl (by decide) (by omega) 0 (ok := fun _ => True) (okp := fun _ => True) rfl (fun _ hk => hk) trivial (by omega) (by omega) (Below.refl _ _) (Nat.le_refl _) ?_
        intro v256 w39 ho40 hb hg_ hnew_
        clear hg_ hnew_
        (first | rw [← Ny255.out] at ho40 | (simp only [Int.reduceToNat] at ho40; rw [← Ny255.out] at ho40))
        have n_ := aC (Kd.R_elder' (rU HO260.out) (Kd.R_base ho40) hb) (aC (Kd.R_lower (Kd.R_new' ho40 (Kd.R_lt (rU HO260.out))) bz) (aE (bs hb)))
        clear HO260 HB
        obtain ⟨HO260, HO257, HB⟩ := n_
        clear hb ho40
        refine hK.out _ _ trivial (fun hHeld => ?_)
        clear hK K
        refine nm (some 6) ?_
        exact norm_ (by simp only [putAll, Act.put, List.setIfInBounds_toArray, List.set_cons_zero, List.set_cons_succ]) (hCont (v256, v259) _ ⟨(rU (Kd.R_mono HO257.out (fun _ hk => hk.2))), (rU (Kd.R_mono HO260.out (fun _ hk => hk.2))), bl⟩)
      rintro ⟨v256, v259⟩ w41 ⟨h0_, h1_, h2_⟩
      have n0_ : Aside0 (Kd.R (Kd.int .u8) 5 w41 w.heap.size (fun k_ => some k_ ≠ (v259 : Value).ownBlock) v256 y255) := ⟨h0_⟩
      have n1_ : Aside0 (Kd.R (Kd.int .u8) 5 w41 w.heap.size (fun k_ => some k_ ≠ (v256 : Value).ownBlock) v259 y258) := ⟨h1_⟩
      have n2_ : Aside0 (Below w.heap.size w w41) := ⟨h2_⟩
      clear HB
      clear h0_ h1_ h2_
      have HO257 := n0_
      have HO260 := n1_
      have HB := n2_
      clear n0_ n1_ n2_
      have hHeld := trivial
      obtain ⟨Ao42, co42, eo42⟩ := Kd.R_slice HO257.out
      (first | subst eo42 | (injection eo42 with f1_ f2_ f3_; have f4_ := f1_.symm; have f5_ := f3_.symm; clear f1_ f2_ f3_; subst f4_; subst f5_))
      obtain ⟨Ao43, co43, eo43⟩ := Kd.R_slice HO260.out
      (first | subst eo43 | (injection eo43 with f1_ f2_ f3_; have f4_ := f1_.symm; have f5_ := f3_.symm; clear f1_ f2_ f3_; subst f4_; subst f5_))
      refine norm_ (a' := ?_) ?_ ?_
      rotate_left
      ·simp only [putAll, Act.put, List.setIfInBounds_toArray, List.set_cons_zero, List.set_cons_succ]
       rfl
      refine one_ (i := 2) (N := some 8) (bv 8 7) rfl rfl (one_of HT_.out (by kernel_rfl)) (by decide) (fun K hK => ?_)
      refine gK Tryd.func19 rfl #[.slice Ao42 y255.length co42, .slice Ao43 y258.length co43] rfl rfl ?_
      with_reducible refine (runs_Modes.calls k _ _ y255 _ _ y258 t261 t262 _ (TIs.on HTI) ?side1 ?side2 ?side3 ?side4 A2.out).mono ?_
      (case side1 => exact cU (Kd.R_reads' HO257.out).2.2)
      (case side2 => exact (Kd.R_reads' HO257.out).2.1)
      (case side3 => exact cU (Kd.R_reads' HO260.out).2.2)
      (case side4 => exact (Kd.R_reads' HO260.out).2.1)
      rintro e w44 ⟨v263, rfl, ho0, hb⟩
      refine ⟨_, rfl, ?_⟩
      have n_ := aC (Kd.R_below (rU HO257.out) hb) (aC (Kd.R_below (rU HO260.out) hb) (aC (Kd.R_lower ho0 bz) (aE (bs hb))))
      clear HO257 HO260 HB
      obtain ⟨HO257, HO260, HO264, HB⟩ := n_
      (try clear hb)
      (try clear hb2)
      (try clear hk)
      (try clear hi)
      (try clear ho0)
      refine hK.out _ _ trivial (fun hHeld => ?_)
      clear hK K
      refine nm (some 8) ?_
      refine pu 3 5 (bv 8 15) HT_ rfl rfl ?_
      refine pu 4 9 (bv 8 31) HT_ rfl rfl ?_
      refine pu 5 10 (bv 8 63) HT_ rfl rfl ?_
      refine pu 6 1 (bv 8 127) HT_ rfl rfl ?_
      refine pu 7 2 (bv 8 255) HT_ rfl rfl ?_
      refine done_ (done_of HT_.out (by kernel_rfl)) ?_
      try go_wp2_with (first | (refine gF 7 12 Tryd.func7 #[.int .i64 5, .int .i64 0] rfl rfl ?_; (with_reducible refine (runs_RunBits.calls k 5 0 t265 t266 _ A3.out).mono ?_); rintro e w45 ⟨v267, rfl, ho0, hb⟩; refine ⟨_, rfl, ?_⟩; have n_ := aC (Kd.R_elder' (rU HO257.out) (Kd.R_base ho0) hb) (aC (Kd.R_elder' (rU HO260.out) (Kd.R_base ho0) hb) (aC (Kd.R_below (rU HO264.out) hb) (aC (Kd.R_lower (Kd.R_new' (Kd.R_new' ho0 (Kd.R_lt (rU HO257.out))) (Kd.R_lt (rU HO260.out))) bz) (aE (bs hb))))); clear HO257 HO260 HO264 HB; obtain ⟨HO257, HO260, HO264, HO268, HB⟩ := n_; obtain ⟨Ao46, co46, eo46⟩ := Kd.R_slice HO264.out; subst eo46; have p269 : 0 ≤ (0 : Int) := (by omega); have q269 : 0 < (t261.length : Int) := dt; obtain ⟨ad269, e269, hx269_0⟩ := Kd.at_string (Kd.R_reads' HO264.out).2.2 0 p269 q269; cases e269; have qi269 : (0 < t261.length) = True := eq_true (by omega); (try rw [show ((0 : Int)).toNat = 0 from rfl] at hx269_0); (try rw [Addr.add_zero'] at hx269_0); replace p269 := eq_true p269; replace q269 := eq_true q269))
      go_ret
      exact ⟨re, bl⟩
    ·rw [if_neg c6] at H
     exact absurd H (by simp)
   ·obtain rfl := Option.some.inj H
    go_enter Tryd.func5, Tryd.ntmps5
    try go_wp2
    have n_ := aE (below_drew1 HB.out)
    clear HB
    have HB := n_
    clear n_
    refine st 8 (fun w' => True) [] (bv 8 0) incunablelaw06_Awake.tab1 incunablelaw06_Awake.bits1 trivial (fun hHeld HT_ HW_ => ?_)
    generalize w.drew = w47 at HB hHeld ⊢
    refine join_ (σ := Value × Value) 6 #[true, true, false, false, false, false, false, false] (fun s_ => [(6, s_.1), (7, s_.2)]) (fun s_ w' => (Kd.R (Kd.int .u8) 5 w' w.heap.size (fun k_ => some k_ ≠ (s_.2 : Value).ownBlock) s_.1 y255) ∧ (Kd.R (Kd.int .u8) 5 w' w.heap.size (fun k_ => some k_ ≠ (s_.1 : Value).ownBlock) s_.2 y258) ∧ (Below w.heap.size w w')) ?_ ?_
    rotate_left
    ·intro hCont
     refine two_ (i := 0) (j := 1) (Ni := some 6) (Nj := some 7) #[true, false, false, false, false, false, false, false] #[false, true, false, false, false, false, false, false] rfl rfl rfl rfl (two_of HT_.out (by kernel_rfl)) (by decide) (by decide) (fun K hK => ?_) (fun K hK => ?_)
     ·skip
      refine Kd.R_make_step (Kd.int .u8) _ 5 (by rfl) (N := 6) rfl 22 _ _ rfl 5 rfl rfl Tryd.underlying22 (.int .u8 0) 1 info5 rfl (by decide) (by omega) 0 (ok := fun _ => True) (okp := fun _ => True) rfl (fun _ hk => hk) trivial (by omega) (by omega) (Below.refl _ _) (Nat.le_refl _) ?_
      intro v256 w48 ho49 hb hg_ hnew_
      clear hg_ hnew_
      (first | rw [← Ny255.out] at ho49 | (simp only [Int.reduceToNat] at ho49; rw [← Ny255.out] at ho49))
      have n_ := aC (Kd.R_lower ho49 bz) (aE (bs hb))
      clear HB
      obtain ⟨HO257, HB⟩ := n_
      clear hb ho49
      refine hK.out _ _ trivial (fun hHeld => ?_)
      clear hK K
      refine nm (some 6) ?_
      refine one_ (i := 1) (N := some 7) (bv 8 3) rfl rfl (one_of HT_.out (by kernel_rfl)) (by decide) (fun K hK => ?_)
      refine Kd.R_make_step (Kd.int .u8) _ 5 (by rfl) (N := 7) rfl 22 _ _ rfl 5 rfl rfl Tryd.underlying22 (.int .u8 0) 1 info5 rfl (by decide) (by omega) 0 (ok := fun _ => True) (okp := fun _ => True) rfl (fun _ hk => hk) trivial (by omega) (by omega) (Below.refl _ _) (Nat.le_refl _) ?_
      intro v259 w50 ho51 hb hg_ hnew_
      clear hg_ hnew_
      (first | rw [← Ny258.out] at ho51 | (simp only [Int.reduceToNat] at ho51; rw [← Ny258.out] at ho51))
      have n_ := aC (Kd.R_elder' (rU HO257.out) (Kd.R_base ho51) hb) (aC (Kd.R_lower (Kd.R_new' ho51 (Kd.R_lt (rU HO257.out))) bz) (aE (bs hb)))
      clear HO257 HB
      obtain ⟨HO257, HO260, HB⟩ := n_
      clear hb ho51
      refine hK.out _ _ trivial (fun hHeld => ?_)
      clear hK K
      refine nm (some 7) ?_
      exact norm_ (by simp only [putAll, Act.put, List.setIfInBounds_toArray, List.set_cons_zero, List.set_cons_succ]) (hCont (v256, v259) _ ⟨(rU (Kd.R_mono HO257.out (fun _ hk => hk.2))), (rU (Kd.R_mono HO260.out (fun _ hk => hk.2))), bl⟩)
     ·skip
      refine Kd.R_make_step (Kd.int .u8) _ 5 (by rfl) (N := 7) rfl 22 _ _ rfl 5 rfl rfl Tryd.underlying22 (.int .u8 0) 1 info5 rfl (by decide) (by omega) 0 (ok := fun _ => True) (okp := fun _ => True) rfl (fun _ hk => hk) trivial (by omega) (by omega) (Below.refl _ _) (Nat.le_refl _) ?_
      intro v259 w48 ho49 hb hg_ hnew_
      clear hg_ hnew_
      (first | rw [← Ny258.out] at ho49 | (simp only [Int.reduceToNat] at ho49; rw [← Ny258.out] at ho49))
      have n_ := aC (Kd.R_lower ho49 bz) (aE (bs hb))
      clear HB
      obtain ⟨HO260, HB⟩ := n_
      clear hb ho49
      refine hK.out _ _ trivial (fun hHeld => ?_)
      clear hK K
      refine nm (some 7) ?_
      refine one_ (i := 0) (N := some 6) (bv 8 3) rfl rfl (one_of HT_.out (by kernel_rfl)) (by decide) (fun K hK => ?_)
      refine Kd.R_make_step (Kd.int .u8) _ 5 (by rfl) (N := 6) rfl 22 _ _ rfl 5 rfl rfl Tryd.underlying22 (.int .u8 0) 1 info5 rfl (by decide) (by omega) 0 (ok := fun _ => True) (okp := fun _ => True) rfl (fun _ hk => hk) trivial (by omega) (by omega) (Below.refl _ _) (Nat.le_refl _) ?_
      intro v256 w50 ho51 hb hg_ hnew_
      clear hg_ hnew_
      (first | rw [← Ny255.out] at ho51 | (simp only [Int.reduceToNat] at ho51; rw [← Ny255.out] at ho51))
      have n_ := aC (Kd.R_elder' (rU HO260.out) (Kd.R_base ho51) hb) (aC (Kd.R_lower (Kd.R_new' ho51 (Kd.R_lt (rU HO260.out))) bz) (aE (bs hb)))
      clear HO260 HB
      obtain ⟨HO260, HO257, HB⟩ := n_
      clear hb ho51
      refine hK.out _ _ trivial (fun hHeld => ?_)
      clear hK K
      refine nm (some 6) ?_
      exact norm_ (by simp only [putAll, Act.put, List.setIfInBounds_toArray, List.set_cons_zero, List.set_cons_succ]) (hCont (v256, v259) _ ⟨(rU (Kd.R_mono HO257.out (fun _ hk => hk.2))), (rU (Kd.R_mono HO260.out (fun _ hk => hk.2))), bl⟩)
    rintro ⟨v256, v259⟩ w52 ⟨h0_, h1_, h2_⟩
    have n0_ : Aside0 (Kd.R (Kd.int .u8) 5 w52 w.heap.size (fun k_ => some k_ ≠ (v259 : Value).ownBlock) v256 y255) := ⟨h0_⟩
    have n1_ : Aside0 (Kd.R (Kd.int .u8) 5 w52 w.heap.size (fun k_ => some k_ ≠ (v256 : Value).ownBlock) v259 y258) := ⟨h1_⟩
    have n2_ : Aside0 (Below w.heap.size w w52) := ⟨h2_⟩
    clear HB
    clear h0_ h1_ h2_
    have HO257 := n0_
    have HO260 := n1_
    have HB := n2_
    clear n0_ n1_ n2_
    have hHeld := trivial
    obtain ⟨Ao53, co53, eo53⟩ := Kd.R_slice HO257.out
    (first | subst eo53 | (injection eo53 with f1_ f2_ f3_; have f4_ := f1_.symm; have f5_ := f3_.symm; clear f1_ f2_ f3_; subst f4_; subst f5_))
    obtain ⟨Ao54, co54, eo54⟩ := Kd.R_slice HO260.out
    (first | subst eo54 | (injection eo54 with f1_ f2_ f3_; have f4_ := f1_.symm; have f5_ := f3_.symm; clear f1_ f2_ f3_; subst f4_; subst f5_))
    refine norm_ (a' := ?_) ?_ ?_
    rotate_left
    ·simp only [putAll, Act.put, List.setIfInBounds_toArray, List.set_cons_zero, List.set_cons_succ]
     rfl
    refine one_ (i := 2) (N := some 8) (bv 8 7) rfl rfl (one_of HT_.out (by kernel_rfl)) (by decide) (fun K hK => ?_)
    refine gK Tryd.func19 rfl #[.slice Ao53 y255.length co53, .slice Ao54 y258.length co54] rfl rfl ?_
    with_reducible refine (runs_Modes.calls k _ _ y255 _ _ y258 t261 t262 _ (TIs.on HTI) ?side1 ?side2 ?side3 ?side4 A2.out).mono ?_
    (case side1 => exact cU (Kd.R_reads' HO257.out).2.2)
    (case side2 => exact (Kd.R_reads' HO257.out).2.1)
    (case side3 => exact cU (Kd.R_reads' HO260.out).2.2)
    (case side4 => exact (Kd.R_reads' HO260.out).2.1)
    rintro e w55 ⟨v263, rfl, ho0, hb⟩
    refine ⟨_, rfl, ?_⟩
    have n_ := aC (Kd.R_below (rU HO257.out) hb) (aC (Kd.R_below (rU HO260.out) hb) (aC (Kd.R_lower ho0 bz) (aE (bs hb))))
    clear HO257 HO260 HB
    obtain ⟨HO257, HO260, HO264, HB⟩ := n_
    (try clear hb)
    (try clear hb2)
    (try clear hk)
    (try clear hi)
    (try clear ho0)
    refine hK.out _ _ trivial (fun hHeld => ?_)
    clear hK K
    refine nm (some 8) ?_
    refine pu 3 5 (bv 8 15) HT_ rfl rfl ?_
    refine pu 4 9 (bv 8 31) HT_ rfl rfl ?_
    refine pu 5 10 (bv 8 63) HT_ rfl rfl ?_
    refine pu 6 1 (bv 8 127) HT_ rfl rfl ?_
    refine pu 7 2 (bv 8 255) HT_ rfl rfl ?_
    refine done_ (done_of HT_.out (by kernel_rfl)) ?_
    try go_wp2_with (first | (refine gF 7 12 Tryd.func7 #[.int .i64 5, .int .i64 0] rfl rfl ?_; (with_reducible refine (runs_RunBits.calls k 5 0 t265 t266 _ A3.out).mono ?_); rintro e w56 ⟨v267, rfl, ho0, hb⟩; refine ⟨_, rfl, ?_⟩; have n_ := aC (Kd.R_elder' (rU HO257.out) (Kd.R_base ho0) hb) (aC (Kd.R_elder' (rU HO260.out) (Kd.R_base ho0) hb) (aC (Kd.R_below (rU HO264.out) hb) (aC (Kd.R_lower (Kd.R_new' (Kd.R_new' ho0 (Kd.R_lt (rU HO257.out))) (Kd.R_lt (rU HO260.out))) bz) (aE (bs hb))))); clear HO257 HO260 HO264 HB; obtain ⟨HO257, HO260, HO264, HO268, HB⟩ := n_; obtain ⟨Ao57, co57, eo57⟩ := Kd.R_slice HO264.out; subst eo57))
    go_ret
    exact ⟨re, bl⟩
  ·obtain rfl := Option.some.inj H
   go_enter Tryd.func5, Tryd.ntmps5
   try go_wp2
   have n_ := aE (below_drew1 HB.out)
   clear HB
   have HB := n_
   clear n_
   refine st 8 (fun w' => True) [] (bv 8 0) incunablelaw06_Awake.tab1 incunablelaw06_Awake.bits1 trivial (fun hHeld HT_ HW_ => ?_)
   generalize w.drew = w58 at HB hHeld ⊢
   refine join_ (σ := Value × Value) 6 #[true, true, false, false, false, false, false, false] (fun s_ => [(6, s_.1), (7, s_.2)]) (fun s_ w' => (Kd.R (Kd.int .u8) 5 w' w.heap.size (fun k_ => some k_ ≠ (s_.2 : Value).ownBlock) s_.1 y255) ∧ (Kd.R (Kd.int .u8) 5 w' w.heap.size (fun k_ => some k_ ≠ (s_.1 : Value).ownBlock) s_.2 y258) ∧ (Below w.heap.size w w')) ?_ ?_
   rotate_left
   ·intro hCont
    refine two_ (i := 0) (j := 1) (Ni := some 6) (Nj := some 7) #[true, false, false, false, false, false, false, false] #[false, true, false, false, false, false, false, false] rfl rfl rfl rfl (two_of HT_.out (by kernel_rfl)) (by decide) (by decide) (fun K hK => ?_) (fun K hK => ?_)
    ·skip
     refine Kd.R_make_step (Kd.int .u8) _ 5 (by rfl) (N := 6) rfl 22 _ _ rfl 5 rfl rfl Tryd.underlying22 (.int .u8 0) 1 info5 rfl (by decide) (by omega) 0 (ok := fun _ => True) (okp := fun _ => True) rfl (fun _ hk => hk) trivial (by omega) (by omega) (Below.refl _ _) (Nat.le_refl _) ?_
     intro v256 w59 ho60 hb hg_ hnew_
     clear hg_ hnew_
     (first | rw [← Ny255.out] at ho60 | (simp only [Int.reduceToNat] at ho60; rw [← Ny255.out] at ho60))
     have n_ := aC (Kd.R_lower ho60 bz) (aE (bs hb))
     clear HB
     obtain ⟨HO257, HB⟩ := n_
     clear hb ho60
     refine hK.out _ _ trivial (fun hHeld => ?_)
     clear hK K
     refine nm (some 6) ?_
     refine one_ (i := 1) (N := some 7) (bv 8 3) rfl rfl (one_of HT_.out (by kernel_rfl)) (by decide) (fun K hK => ?_)
     refine Kd.R_make_step (Kd.int .u8) _ 5 (by rfl) (N := 7) rfl 22 _ _ rfl 5 rfl rfl Tryd.underlying22 (.int .u8 0) 1 info5 rfl (by decide) (by omega) 0 (ok := fun _ => True) (okp := fun _ => True) rfl (fun _ hk => hk) trivial (by omega) (by omega) (Below.refl _ _) (Nat.le_refl _) ?_
     intro v259 w61 ho62 hb hg_ hnew_
     clear hg_ hnew_
     (first | rw [← Ny258.out] at ho62 | (simp only [Int.reduceToNat] at ho62; rw [← Ny258.out] at ho62))
     have n_ := aC (Kd.R_elder' (rU HO257.out) (Kd.R_base ho62) hb) (aC (Kd.R_lower (Kd.R_new' ho62 (Kd.R_lt (rU HO257.out))) bz) (aE (bs hb)))
     clear HO257 HB
     obtain ⟨HO257, HO260, HB⟩ := n_
     clear hb ho62
     refine hK.out _ _ trivial (fun hHeld => ?_)
     clear hK K
     refine nm (some 7) ?_
     exact norm_ (by simp only [putAll, Act.put, List.setIfInBounds_toArray, List.set_cons_zero, List.set_cons_succ]) (hCont (v256, v259) _ ⟨(rU (Kd.R_mono HO257.out (fun _ hk => hk.2))), (rU (Kd.R_mono HO260.out (fun _ hk => hk.2))), bl⟩)
    ·skip
     refine Kd.R_make_step (Kd.int .u8) _ 5 (by rfl) (N := 7) rfl 22 _ _ rfl 5 rfl rfl Tryd.underlying22 (.int .u8 0) 1 info5 rfl (by decide) (by omega) 0 (ok := fun _ => True) (okp := fun _ => True) rfl (fun _ hk => hk) trivial (by omega) (by omega) (Below.refl _ _) (Nat.le_refl _) ?_
     intro v259 w59 ho60 hb hg_ hnew_
     clear hg_ hnew_
     (first | rw [← Ny258.out] at ho60 | (simp only [Int.reduceToNat] at ho60; rw [← Ny258.out] at ho60))
     have n_ := aC (Kd.R_lower ho60 bz) (aE (bs hb))
     clear HB
     obtain ⟨HO260, HB⟩ := n_
     clear hb ho60
     refine hK.out _ _ trivial (fun hHeld => ?_)
     clear hK K
     refine nm (some 7) ?_
     refine one_ (i := 0) (N := some 6) (bv 8 3) rfl rfl (one_of HT_.out (by kernel_rfl)) (by decide) (fun K hK => ?_)
     refine Kd.R_make_step (Kd.int .u8) _ 5 (by rfl) (N := 6) rfl 22 _ _ rfl 5 rfl rfl Tryd.underlying22 (.int .u8 0) 1 info5 rfl (by decide) (by omega) 0 (ok := fun _ => True) (okp := fun _ => True) rfl (fun _ hk => hk) trivial (by omega) (by omega) (Below.refl _ _) (Nat.le_refl _) ?_
     intro v256 w61 ho62 hb hg_ hnew_
     clear hg_ hnew_
     (first | rw [← Ny255.out] at ho62 | (simp only [Int.reduceToNat] at ho62; rw [← Ny255.out] at ho62))
     have n_ := aC (Kd.R_elder' (rU HO260.out) (Kd.R_base ho62) hb) (aC (Kd.R_lower (Kd.R_new' ho62 (Kd.R_lt (rU HO260.out))) bz) (aE (bs hb)))
     clear HO260 HB
     obtain ⟨HO260, HO257, HB⟩ := n_
     clear hb ho62
     refine hK.out _ _ trivial (fun hHeld => ?_)
     clear hK K
     refine nm (some 6) ?_
     exact norm_ (by simp only [putAll, Act.put, List.setIfInBounds_toArray, List.set_cons_zero, List.set_cons_succ]) (hCont (v256, v259) _ ⟨(rU (Kd.R_mono HO257.out (fun _ hk => hk.2))), (rU (Kd.R_mono HO260.out (fun _ hk => hk.2))), bl⟩)
   rintro ⟨v256, v259⟩ w63 ⟨h0_, h1_, h2_⟩
   have n0_ : Aside0 (Kd.R (Kd.int .u8) 5 w63 w.heap.size (fun k_ => some k_ ≠ (v259 : Value).ownBlock) v256 y255) := ⟨h0_⟩
   have n1_ : Aside0 (Kd.R (Kd.int .u8) 5 w63 w.heap.size (fun k_ => some k_ ≠ (v256 : Value).ownBlock) v259 y258) := ⟨h1_⟩
   have n2_ : Aside0 (Below w.heap.size w w63) := ⟨h2_⟩
   clear HB
   clear h0_ h1_ h2_
   have HO257 := n0_
   have HO260 := n1_
   have HB := n2_
   clear n0_ n1_ n2_
   have hHeld := trivial
   obtain ⟨Ao64, co64, eo64⟩ := Kd.R_slice HO257.out
   (first | subst eo64 | (injection eo64 with f1_ f2_ f3_; have f4_ := f1_.symm; have f5_ := f3_.symm; clear f1_ f2_ f3_; subst f4_; subst f5_))
   obtain ⟨Ao65, co65, eo65⟩ := Kd.R_slice HO260.out
   (first | subst eo65 | (injection eo65 with f1_ f2_ f3_; have f4_ := f1_.symm; have f5_ := f3_.symm; clear f1_ f2_ f3_; subst f4_; subst f5_))
   refine norm_ (a' := ?_) ?_ ?_
   rotate_left
   ·simp only [putAll, Act.put, List.setIfInBounds_toArray, List.set_cons_zero, List.set_cons_succ]
    rfl
   refine one_ (i := 2) (N := some 8) (bv 8 7) rfl rfl (one_of HT_.out (by kernel_rfl)) (by decide) (fun K hK => ?_)
   refine gK Tryd.func19 rfl #[.slice Ao64 y255.length co64, .slice Ao65 y258.length co65] rfl rfl ?_
   with_reducible refine (runs_Modes.calls k _ _ y255 _ _ y258 t261 t262 _ (TIs.on HTI) ?side1 ?side2 ?side3 ?side4 A2.out).mono ?_
   (case side1 => exact cU (Kd.R_reads' HO257.out).2.2)
   (case side2 => exact (Kd.R_reads' HO257.out).2.1)
   (case side3 => exact cU (Kd.R_reads' HO260.out).2.2)
   (case side4 => exact (Kd.R_reads' HO260.out).2.1)
   rintro e w66 ⟨v263, rfl, ho0, hb⟩
   refine ⟨_, rfl, ?_⟩
   have n_ := aC (Kd.R_below (rU HO257.out) hb) (aC (Kd.R_below (rU HO260.out) hb) (aC (Kd.R_lower ho0 bz) (aE (bs hb))))
   clear HO257 HO260 HB
   obtain ⟨HO257, HO260, HO264, HB⟩ := n_
   (try clear hb)
   (try clear hb2)
   (try clear hk)
   (try clear hi)
   (try clear ho0)
   refine hK.out _ _ trivial (fun hHeld => ?_)
   clear hK K
   refine nm (some 8) ?_
   refine pu 3 5 (bv 8 15) HT_ rfl rfl ?_
   refine pu 4 9 (bv 8 31) HT_ rfl rfl ?_
   refine pu 5 10 (bv 8 63) HT_ rfl rfl ?_
   refine pu 6 1 (bv 8 127) HT_ rfl rfl ?_
   refine pu 7 2 (bv 8 255) HT_ rfl rfl ?_
   refine done_ (done_of HT_.out (by kernel_rfl)) ?_
   try go_wp2_with (first | (refine gF 7 12 Tryd.func7 #[.int .i64 5, .int .i64 0] rfl rfl ?_; (with_reducible refine (runs_RunBits.calls k 5 0 t265 t266 _ A3.out).mono ?_); rintro e w67 ⟨v267, rfl, ho0, hb⟩; refine ⟨_, rfl, ?_⟩; have n_ := aC (Kd.R_elder' (rU HO257.out) (Kd.R_base ho0) hb) (aC (Kd.R_elder' (rU HO260.out) (Kd.R_base ho0) hb) (aC (Kd.R_below (rU HO264.out) hb) (aC (Kd.R_lower (Kd.R_new' (Kd.R_new' ho0 (Kd.R_lt (rU HO257.out))) (Kd.R_lt (rU HO260.out))) bz) (aE (bs hb))))); clear HO257 HO260 HO264 HB; obtain ⟨HO257, HO260, HO264, HO268, HB⟩ := n_))
   go_ret
   exact ⟨re, bl⟩
 ·rw [if_neg c1] at H
  exact absurd H (by simp)
end Go.Proofs.YtidgpjcgoocpeaaDoor.PTopRuns
