-- printed (wip/tools/myprint.py)
import Derived.Test.YtidgpjcgoocpeaaDoorPTopRunsx0
import Derived.Test.YtidgpjcgoocpeaaDoorPTopRunsx1
import Derived.Test.YtidgpjcgoocpeaaDoorPTopRunsx2
import Derived.Test.YtidgpjcgoocpeaaDoorPTopRunsx3
namespace Go.Proofs.YtidgpjcgoocpeaaDoor.PTopRuns
open Go.RowKit Go.Proofs.YtidgpjcgoocpeaaDoorW.PrintWords Go.Proofs.YtidgpjcgoocpeaaDoorW.PrintLast Go.Proofs.YtidgpjcgoocpeaaDoorW.PrintMore
attribute [local go_sem] max2_int min2_int max_two min_two max_three min_three max_four min_four
set_option linter.unusedVariables false
set_option linter.unusedSimpArgs false
def prefix_Bits.f (k : Nat) (l0 : List (S103)) (a1_0 : Bool) (a1_1 : Int) : Option (List Int × Int) := (prefix_Valid.f k l0).bind fun t173 => (if t173 = true then ((prefix_codes.f k l0).bind fun t174 => ((prefix_put.f k l0 t174 a1_0 a1_1).bind fun bt177 => (some (bt177.1, bt177.2)))) else (some (([] : List Int), 20)))
theorem prefix_Bits.mono : ∀ a0 a1 a2 k, LeO (prefix_Bits.f k a0 a1 a2) (prefix_Bits.f (k + 1) a0 a1 a2) := by
 intro a0 a1 a2 k
 unfold prefix_Bits.f
 repeat' first
   | (with_reducible exact prefix_Valid.mono _ _)
   | (with_reducible exact prefix_codes.mono _ _)
   | (with_reducible exact prefix_put.mono _ _ _ _ _)
   | (with_reducible first | exact LeO.refl _ | exact LeO.none _ | refine LeO.ite ?_ ?_ | refine LeO.bind ?_ (fun _ => ?_))
def prefix_Bits.T3 : Bool × List (List Nat × List Nat) := (true, [([], []), ([], []), ([1], [1]), ([], []), ([0, 2, 3, 2], [0, 2, 3]), ([4], [4]), ([4], [4]), ([5, 4, 0, 1, 2, 3, 4, 5, 6], [5]), ([6, 7, 0, 1, 2, 3, 4, 5, 6, 7], [6])])
def prefix_Bits.B3 : List Nat := [0, 0, 2, 0, 15, 31, 31, 127, 255]
theorem prefix_Bits.tab3 : rtab .any (opsOf Tryd.f37 3) = prefix_Bits.T3 := by kernel_rfl
theorem prefix_Bits.bits3 : waitsOk prefix_Bits.T3.2 prefix_Bits.B3 = true := by kernel_rfl
set_option maxHeartbeats 8000000 in
set_option maxRecDepth 100000 in
theorem prefix_Bits.calls (k : Nat) (A0 : Option Addr) (c0 : Nat) (l0 : List (S103)) (a1_0 : Bool) (a1_1 : Int) (r1 : List Int) (r2 : Int) (w : World) (hr0 : Kd.C k103 w A0 l0.length l0) (hc0 : l0.length ≤ c0) (h : prefix_Bits.f k l0 a1_0 a1_1 = some (r1, r2)) :
  Calls Tryd.prog 37 #[.slice A0 l0.length c0, .agg #[.bool a1_0, .int .i64 a1_1]] w fun e w' => ∃ v0_ : Value, e = .returned (.tuple #[v0_, .int .i64 r2]) ∧ Kd.R (Kd.int .u8) 5 w' w.heap.size (fun _ => True) v0_ r1 ∧ Below w.heap.size w w' := by
 have hu72 := Tryd.underlying72
 have HR0 := Aside0.mk hr0
 have HC0 := Aside0.mk hc0
 clear hr0 hc0
 have HB := Aside0.mk (Below.refl w.heap.size w)
 have H := h
 unfold prefix_Bits.f at H
 clear h
 obtain ⟨t173, A3, H⟩ := oB H
 try dsimp only at H
 by_cases c4 : t173 = true
 ·subst c4
  rw [if_pos rfl] at H
  obtain ⟨t174, A5, H⟩ := oB H
  try dsimp only at H
  obtain ⟨⟨t177, t180⟩, A6, H⟩ := oB H
  try dsimp only at H
  simp only [Option.some.injEq, Prod.mk.injEq] at H
  obtain ⟨rfl, rfl⟩ := H
  go_enter Tryd.func37, Tryd.ntmps37
  try go_wp2_with (first | ((with_reducible refine gd 3 rfl ?_); refine bx 3 #[.bool a1_0, .int .i64 a1_1] 72 rfl rfl ?_; intro gb172 hg w7 hbox hb; have n_ := aC (bs hb) (aC hbox (aC (gz hg) (aE (gz hg)))); clear HB; obtain ⟨HB, BK172, GW172, GE172⟩ := n_; clear hb hbox hg) | (refine gF 53 7 Tryd.func53 #[.slice A0 l0.length c0] rfl rfl ?_; (with_reducible refine (prefix_Valid.calls k _ _ l0 true _ ?side1 ?side2 A3.out).mono ?_); (case side1 => exact cU (Kd.C_below HR0.out HB.out)); (case side2 => exact HC0.out); rintro e w8 ⟨rfl, hb⟩; refine ⟨_, rfl, ?_⟩; have n_ := aC (blk_below (bU BK172.out) hb) (aE (bs hb)); clear BK172 HB; obtain ⟨BK172, HB⟩ := n_))
  have n_ := aC (blk_drew BK172.out) (aE (below_drew1 HB.out))
  clear BK172 HB
  obtain ⟨BK172, HB⟩ := n_
  refine st 9 (fun w' => w'.cell? ⟨gb172, 0, none⟩ = some (.bool a1_0) ∧ w'.cell? ⟨gb172, 1, none⟩ = some (.int .i64 a1_1)) [] (bv 9 0) prefix_Bits.tab3 prefix_Bits.bits3 ⟨kc0 BK172.out, kc1 BK172.out⟩ (fun hHeld HT_ HW_ => ?_)
  generalize w8.drew = w9 at BK172 HB hHeld ⊢
  refine pu 0 9 (bv 9 1) HT_ rfl rfl ?_
  refine pu 1 10 (bv 9 3) HT_ rfl rfl ?_
  refine tk 3 12 (bv 9 11) HT_ HW_ hHeld rfl rfl (by rintro w' ⟨s0, s1⟩; exact yl) ?_
  refine one_ (i := 2) (N := some 11) (bv 9 15) rfl rfl (one_of HT_.out (by kernel_rfl)) (by decide) (fun K hK => ?_)
  refine gK Tryd.func55 rfl #[.slice A0 l0.length c0] rfl rfl ?_
  with_reducible refine (prefix_codes.calls k _ _ l0 t174 _ ?side1 ?side2 A5.out).mono ?_
  (case side1 => exact cU (Kd.C_below HR0.out HB.out))
  (case side2 => exact HC0.out)
  rintro e w10 ⟨v175, rfl, ho0, hb⟩
  refine ⟨_, rfl, ?_⟩
  have n_ := aC (Kd.R_lower ho0 bz) (aC (blk_below (bU BK172.out) hb) (aE (bs hb)))
  clear BK172 HB
  obtain ⟨HO176, BK172, HB⟩ := n_
  (try clear hb)
  (try clear hb2)
  (try clear hk)
  (try clear hi)
  (try clear ho0)
  obtain ⟨Ao11, co11, eo11⟩ := Kd.R_slice HO176.out
  (first | subst eo11 | (injection eo11 with f1_ f2_ f3_; have f4_ := f1_.symm; have f5_ := f3_.symm; clear f1_ f2_ f3_; subst f4_; subst f5_))
  refine hK.out _ _ ⟨kc0 BK172.out, kc1 BK172.out⟩ (fun hHeld => ?_)
  clear hK K
  refine nm (some 11) ?_
  refine one_ (i := 4) (N := some 13) (bv 9 31) rfl rfl (one_of HT_.out (by kernel_rfl)) (by decide) (fun K hK => ?_)
  refine gK Tryd.func54 rfl #[.slice A0 l0.length c0, .slice Ao11 t174.length co11, .agg #[.bool a1_0, .int .i64 a1_1]] rfl rfl ?_
  with_reducible refine (prefix_put.calls k _ _ l0 _ _ t174 a1_0 a1_1 t177 t180 _ ?side1 ?side2 ?side3 ?side4 A6.out).mono ?_
  (case side1 => exact cU (Kd.C_below HR0.out HB.out))
  (case side2 => exact HC0.out)
  (case side3 => exact cU (Kd.R_reads' HO176.out).2.2)
  (case side4 => exact (Kd.R_reads' HO176.out).2.1)
  rintro e w12 ⟨v178, rfl, ho0, hb⟩
  refine ⟨_, rfl, ?_⟩
  have n_ := aC (Kd.R_below (rU HO176.out) hb) (aC (Kd.R_lower ho0 bz) (aC (blk_below (bU BK172.out) hb) (aE (bs hb))))
  clear HO176 BK172 HB
  obtain ⟨HO176, HO179, BK172, HB⟩ := n_
  (try clear hb)
  (try clear hb2)
  (try clear hk)
  (try clear hi)
  (try clear ho0)
  refine hK.out _ _ ⟨kc0 BK172.out, kc1 BK172.out⟩ (fun hHeld => ?_)
  clear hK K
  refine nm (some 13) ?_
  refine pu 5 14 (bv 9 63) HT_ rfl rfl ?_
  refine pu 6 15 (bv 9 127) HT_ rfl rfl ?_
  refine pu 7 4 (bv 9 255) HT_ rfl rfl ?_
  refine pu 8 5 (bv 9 511) HT_ rfl rfl ?_
  refine done_ (done_of HT_.out (by kernel_rfl)) ?_
  try go_wp2
  go_ret2
  exact ⟨_, re, rU HO179.out, bl⟩
 ·replace c4 := Bool.eq_false_iff.mpr c4
  subst c4
  rw [if_neg Bool.false_ne_true] at H
  simp only [Option.some.injEq, Prod.mk.injEq] at H
  obtain ⟨rfl, rfl⟩ := H
  go_enter Tryd.func37, Tryd.ntmps37
  go_wp2_with (first | ((with_reducible refine gd 3 rfl ?_); refine bx 3 #[.bool a1_0, .int .i64 a1_1] 72 rfl rfl ?_; intro gb172 hg w13 hbox hb; have n_ := aC (bs hb) (aC hbox (aC (gz hg) (aE (gz hg)))); clear HB; obtain ⟨HB, BK172, GW172, GE172⟩ := n_; clear hb hbox hg) | (refine gF 53 7 Tryd.func53 #[.slice A0 l0.length c0] rfl rfl ?_; (with_reducible refine (prefix_Valid.calls k _ _ l0 false _ ?side1 ?side2 A3.out).mono ?_); (case side1 => exact cU (Kd.C_below HR0.out HB.out)); (case side2 => exact HC0.out); rintro e w14 ⟨rfl, hb⟩; refine ⟨_, rfl, ?_⟩; have n_ := aC (blk_below (bU BK172.out) hb) (aE (bs hb)); clear BK172 HB; obtain ⟨BK172, HB⟩ := n_))
  go_ret2
  exact ⟨_, re, by first | exact Kd.R_nil _ _ _ _ _ | exact Kd.N_nil _ _ _ _ _ | exact Kd.V_nil _ _ _ _ _ | exact Kd.Q_nil _ _ _ _ _ | exact Kd.S_nil _ _ _ _ _, bl⟩
def runs_remains.f (a0 : Int) : Option ((List (S103))) := if a0 = 0 then (some (([(⟨2, 2, 0, 0⟩ : S103), (⟨2, 3, 4, 0⟩ : S103), (⟨2, 4, 12, 0⟩ : S103), (⟨2, 6, 28, 0⟩ : S103)] : List (S103)))) else (some (([(⟨1, 1, 0, 0⟩ : S103), (⟨2, 1, 2, 0⟩ : S103), (⟨3, 2, 4, 0⟩ : S103), (⟨3, 6, 8, 0⟩ : S103)] : List (S103))))
set_option maxHeartbeats 8000000 in
set_option maxRecDepth 100000 in
theorem runs_remains.calls (a0 : Int) (r : List (S103)) (w : World) (h : runs_remains.f a0 = some r) :
  Calls Tryd.prog 38 #[.int .i64 a0] w fun e w' => ∃ v0_ : Value, e = .returned (v0_) ∧ Kd.R k103 103 w' w.heap.size (fun _ => True) v0_ r ∧ Below w.heap.size w w' := by
 have hu103 := Tryd.underlying103
 have HB := Aside0.mk (Below.refl w.heap.size w)
 have H := h
 unfold runs_remains.f at H
 clear h
 rcases iE H with H1 | H1 <;> clear H <;> obtain ⟨H, c2b0, c2b1, c2⟩ := H1
 ·obtain ⟨y181, hy_⟩ : ∃ y_ : List (S103), y_ = (([(⟨2, 2, 0, 0⟩ : S103), (⟨2, 3, 4, 0⟩ : S103), (⟨2, 4, 12, 0⟩ : S103), (⟨2, 6, 28, 0⟩ : S103)] : List (S103))) := ⟨_, rfl⟩
  replace H : (some y181) = some r := rh
  have Ny181 := aE hy_
  clear hy_
  obtain rfl := Option.some.inj H
  go_enter Tryd.func38, Tryd.ntmps38
  go_wp2_with (first | ((with_reducible refine gd 9 rfl ?_); refine Kd.R_lit k103 _ 103 ?hg (N := 9) ?hd (xs := ([(⟨2, 2, 0, 0⟩ : S103), (⟨2, 3, 4, 0⟩ : S103), (⟨2, 4, 12, 0⟩ : S103), (⟨2, 6, 28, 0⟩ : S103)] : List (S103))) (inner := [.int .i64 2, .int .i64 2, .int .i64 0, .int .i64 0, .int .i64 2, .int .i64 3, .int .i64 4, .int .i64 0, .int .i64 2, .int .i64 4, .int .i64 12, .int .i64 0, .int .i64 2, .int .i64 6, .int .i64 28, .int .i64 0]) (ok := fun _ => True) (okp := fun _ => True) ?hr ?hp (fun _ hk => hk) trivial (Below.refl _ _) (Nat.le_refl _) (by simp) ?_; (case hd => rfl); (case hg => rfl); (case hr => first | (go_simp; done) | (go_simp; rfl)); (case hp => exact (Reps.c4 (show Kd.M k103 _ _ _ (⟨2, 2, 0, 0⟩ : S103) [.int .i64 2, .int .i64 2, .int .i64 0, .int .i64 0] from (k103_mkM _ _ _ (⟨2, 2, 0, 0⟩ : S103) )) (Reps.c4 (show Kd.M k103 _ _ _ (⟨2, 3, 4, 0⟩ : S103) [.int .i64 2, .int .i64 3, .int .i64 4, .int .i64 0] from (k103_mkM _ _ _ (⟨2, 3, 4, 0⟩ : S103) )) (Reps.c4 (show Kd.M k103 _ _ _ (⟨2, 4, 12, 0⟩ : S103) [.int .i64 2, .int .i64 4, .int .i64 12, .int .i64 0] from (k103_mkM _ _ _ (⟨2, 4, 12, 0⟩ : S103) )) (Reps.c4 (show Kd.M k103 _ _ _ (⟨2, 6, 28, 0⟩ : S103) [.int .i64 2, .int .i64 6, .int .i64 28, .int .i64 0] from (k103_mkM _ _ _ (⟨2, 6, 28, 0⟩ : S103) )) (Reps.none _ _)))))); intro v182 w3 ho4 hb hg_ hnew_; clear hg_ hnew_; (first | rw [← Ny181.out] at ho4 | (simp only [Int.reduceToNat] at ho4; rw [← Ny181.out] at ho4)); have n_ := aC (Kd.R_lower ho4 bz) (aE (bs hb)); clear HB; obtain ⟨HO183, HB⟩ := n_; clear hb ho4))
  go_ret
  exact ⟨_, re, rU HO183.out, bl⟩
 ·obtain ⟨y184, hy_⟩ : ∃ y_ : List (S103), y_ = (([(⟨1, 1, 0, 0⟩ : S103), (⟨2, 1, 2, 0⟩ : S103), (⟨3, 2, 4, 0⟩ : S103), (⟨3, 6, 8, 0⟩ : S103)] : List (S103))) := ⟨_, rfl⟩
  replace H : (some y184) = some r := rh
  have Ny184 := aE hy_
  clear hy_
  obtain rfl := Option.some.inj H
  go_enter Tryd.func38, Tryd.ntmps38
  go_wp2_with (first | ((with_reducible refine gd 14 rfl ?_); refine Kd.R_lit k103 _ 103 ?hg (N := 14) ?hd (xs := ([(⟨1, 1, 0, 0⟩ : S103), (⟨2, 1, 2, 0⟩ : S103), (⟨3, 2, 4, 0⟩ : S103), (⟨3, 6, 8, 0⟩ : S103)] : List (S103))) (inner := [.int .i64 1, .int .i64 1, .int .i64 0, .int .i64 0, .int .i64 2, .int .i64 1, .int .i64 2, .int .i64 0, .int .i64 3, .int .i64 2, .int .i64 4, .int .i64 0, .int .i64 3, .int .i64 6, .int .i64 8, .int .i64 0]) (ok := fun _ => True) (okp := fun _ => True) ?hr ?hp (fun _ hk => hk) trivial (Below.refl _ _) (Nat.le_refl _) (by simp) ?_; (case hd => rfl); (case hg => rfl); (case hr => first | (go_simp; done) | (go_simp; rfl)); (case hp => exact (Reps.c4 (show Kd.M k103 _ _ _ (⟨1, 1, 0, 0⟩ : S103) [.int .i64 1, .int .i64 1, .int .i64 0, .int .i64 0] from (k103_mkM _ _ _ (⟨1, 1, 0, 0⟩ : S103) )) (Reps.c4 (show Kd.M k103 _ _ _ (⟨2, 1, 2, 0⟩ : S103) [.int .i64 2, .int .i64 1, .int .i64 2, .int .i64 0] from (k103_mkM _ _ _ (⟨2, 1, 2, 0⟩ : S103) )) (Reps.c4 (show Kd.M k103 _ _ _ (⟨3, 2, 4, 0⟩ : S103) [.int .i64 3, .int .i64 2, .int .i64 4, .int .i64 0] from (k103_mkM _ _ _ (⟨3, 2, 4, 0⟩ : S103) )) (Reps.c4 (show Kd.M k103 _ _ _ (⟨3, 6, 8, 0⟩ : S103) [.int .i64 3, .int .i64 6, .int .i64 8, .int .i64 0] from (k103_mkM _ _ _ (⟨3, 6, 8, 0⟩ : S103) )) (Reps.none _ _)))))); intro v185 w5 ho6 hb hg_ hnew_; clear hg_ hnew_; (first | rw [← Ny184.out] at ho6 | (simp only [Int.reduceToNat] at ho6; rw [← Ny184.out] at ho6)); have n_ := aC (Kd.R_lower ho6 bz) (aE (bs hb)); clear HB; obtain ⟨HO186, HB⟩ := n_; clear hb ho6))
  go_ret
  exact ⟨_, re, rU HO186.out, bl⟩
def runs_runBits.f (k : Nat) (a0 : Int) (a1 : Int) : Option (List Int) := (prefix_Standard.f k 0).bind fun bt187 => ((prefix_Bits.f k bt187.1 false (wrap64 (Int.tdiv a0 64))).bind fun bt191 => ((runs_remains.f a1).bind fun t195 => ((prefix_Bits.f k t195 false (Int.tmod a0 64)).bind fun bt198 => (if bt191.1.length + bt198.1.length < 140737488355328 then (some (bt191.1 ++ bt198.1)) else (none)))))
theorem runs_runBits.mono : ∀ a0 a1 k, LeO (runs_runBits.f k a0 a1) (runs_runBits.f (k + 1) a0 a1) := by
 intro a0 a1 k
 unfold runs_runBits.f
 repeat' first
   | (with_reducible exact prefix_Bits.mono _ _ _ _)
   | (with_reducible exact prefix_Standard.mono _ _)
   | (with_reducible first | exact LeO.refl _ | exact LeO.none _ | refine LeO.ite ?_ ?_ | refine LeO.bind ?_ (fun _ => ?_))
set_option maxHeartbeats 8000000 in
set_option maxRecDepth 100000 in
theorem runs_runBits.calls (k : Nat) (a0 : Int) (a1 : Int) (r : List Int) (w : World) (h : runs_runBits.f k a0 a1 = some r) :
  Calls Tryd.prog 22 #[.int .i64 a0, .int .i64 a1] w fun e w' => ∃ v0_ : Value, e = .returned (v0_) ∧ Kd.R (Kd.int .u8) 5 w' w.heap.size (fun _ => True) v0_ r ∧ Below w.heap.size w w' := by
 have hu72 := Tryd.underlying72
 have HB := Aside0.mk (Below.refl w.heap.size w)
 have H := h
 unfold runs_runBits.f at H
 clear h
 obtain ⟨⟨t187, t188⟩, A3, H⟩ := oB H
 try dsimp only at H
 obtain ⟨⟨t191, t194⟩, A4, H⟩ := oB H
 try dsimp only at H
 obtain ⟨t195, A5, H⟩ := oB H
 try dsimp only at H
 obtain ⟨⟨t198, t201⟩, A6, H⟩ := oB H
 try dsimp only at H
 by_cases c7 : t191.length + t198.length < 140737488355328
 ·rw [if_pos c7] at H
  have LMc7 := Aside0.mk c7
  clear c7
  obtain ⟨y202, hy_⟩ : ∃ y_ : List Int, y_ = (t191 ++ t198) := ⟨_, rfl⟩
  replace H : (some y202) = some r := rh
  have Ny202 := aE hy_
  clear hy_
  obtain rfl := Option.some.inj H
  go_enter Tryd.func22, Tryd.ntmps22
  go_wp2_with (first | (refine gF 36 12 Tryd.func36 #[.int .i64 0] rfl rfl ?_; (with_reducible refine (prefix_Standard.calls k 0 t187 t188 _ A3.out).mono ?_); rintro e w8 ⟨v189, rfl, ho0, hb⟩; refine ⟨_, rfl, ?_⟩; have n_ := aC (Kd.R_lower ho0 bz) (aE (bs hb)); clear HB; obtain ⟨HO190, HB⟩ := n_; obtain ⟨Ao9, co9, eo9⟩ := Kd.R_slice HO190.out; subst eo9) | (refine gF 37 20 Tryd.func37 #[.slice Ao9 t187.length co9, .agg #[.bool false, .int .i64 (wrap64 (Int.tdiv a0 64))]] rfl rfl ?_; (with_reducible refine (prefix_Bits.calls k _ _ t187 false (wrap64 (Int.tdiv a0 64)) t191 t194 _ ?side1 ?side2 A4.out).mono ?_); (case side1 => exact cU (Kd.R_reads' HO190.out).2.2); (case side2 => exact (Kd.R_reads' HO190.out).2.1); rintro e w10 ⟨v192, rfl, ho0, hb⟩; refine ⟨_, rfl, ?_⟩; have n_ := aC (Kd.R_below (rU HO190.out) hb) (aC (Kd.R_lower ho0 bz) (aE (bs hb))); clear HO190 HB; obtain ⟨HO190, HO193, HB⟩ := n_) | (refine gF 38 25 Tryd.func38 #[.int .i64 a1] rfl rfl ?_; (with_reducible refine (runs_remains.calls a1 t195 _ A5.out).mono ?_); rintro e w11 ⟨v196, rfl, ho0, hb⟩; refine ⟨_, rfl, ?_⟩; have n_ := aC (Kd.R_elder' (rU HO190.out) (Kd.R_base ho0) hb) (aC (Kd.R_below (rU HO193.out) hb) (aC (Kd.R_lower (Kd.R_new' ho0 (Kd.R_lt (rU HO190.out))) bz) (aE (bs hb)))); clear HO190 HO193 HB; obtain ⟨HO190, HO193, HO197, HB⟩ := n_; obtain ⟨Ao12, co12, eo12⟩ := Kd.R_slice HO197.out; subst eo12) | (refine gF 37 29 Tryd.func37 #[.slice Ao12 t195.length co12, .agg #[.bool false, .int .i64 (Int.tmod a0 64)]] rfl rfl ?_; (with_reducible refine (prefix_Bits.calls k _ _ t195 false (Int.tmod a0 64) t198 t201 _ ?side1 ?side2 A6.out).mono ?_); (case side1 => exact cU (Kd.R_reads' HO197.out).2.2); (case side2 => exact (Kd.R_reads' HO197.out).2.1); rintro e w13 ⟨v199, rfl, ho0, hb⟩; refine ⟨_, rfl, ?_⟩; have n_ := aC (Kd.R_below (rU HO190.out) hb) (aC (Kd.R_elder' (rU HO193.out) (Kd.R_base ho0) hb) (aC (Kd.R_below (rU HO197.out) hb) (aC (Kd.R_lower (Kd.R_new' ho0 (Kd.R_lt (rU HO193.out))) bz) (aE (bs hb))))); clear HO190 HO193 HO197 HB; obtain ⟨HO190, HO193, HO197, HO200, HB⟩ := n_; obtain ⟨Ao15, co15, eo15⟩ := Kd.R_slice HO200.out; subst eo15) | ((with_reducible refine gate_builtin (b := .append) (xs := #[.tmp 32, .tmp 33]) rfl ?_); at_builtin; refine Kd.R_append_rows (Kd.int .u8) (w0 := w) w.heap.size rfl (.tmp 32) (.tmp 33) 22 5 (.int .u8 0) 1 rfl Tryd.underlying22 info5 rfl (by decide) (by omega) v192 t191 t198 _ _ _ (fun k_ => some k_ ≠ (.slice Ao15 t198.length co15 : Value).ownBlock) (fun _ => False) rfl rfl ?aO ?aR (fun _ _ h => h) (fun _ h => h.elim) ?aF ?aB ?aS ?aL ?_; (case aR => repeat (first | exact (Kd.R_reads' HO200.out).2.2 | (with_reducible refine Kd.C_alloc ?_ _) | (with_reducible refine Kd.C_drewN ?_ _) | (with_reducible refine Kd.C_drew ?_))); (case aB => exact bl); (case aF => exact (fun k_ hk => Kd.fresh' (Kd.R_lt (rU HO200.out)) k_ hk)); (case aO => exact (rU (Kd.R_mono HO193.out (fun _ hk => hk.2)))); (case aS => exact bz); (case aL => have := LMc7.out; omega); intro v203 w14 ho hb hg hat; rw [← Ny202.out] at ho; have n_ := aC (Kd.R_over' (rU HO190.out) (Kd.R_typed (rU HO193.out)) (by decide) hg) (aC (Kd.R_over' (rU HO197.out) (Kd.R_typed (rU HO193.out)) (by decide) hg) (aC (Kd.R_after (ok := (fun _ => True)) (rU HO200.out) hg hat) (aC hb (aE ho)))); clear HO190 HO197 HO200 HB HO193; obtain ⟨HO190, HO197, HO200, HB, HO204⟩ := n_; clear ho hb hg hat))
  go_ret
  exact ⟨_, re, rU (Kd.R_mono HO204.out (fun _ hk => trivial)), bl⟩
 ·rw [if_neg c7] at H
  exact absurd H (by simp)
def runs_RunBits.f (k : Nat) (a0 : Int) (a1 : Int) : Option (List Int × Int) := if a0 < 0 then (some (([] : List Int), 2)) else (if a0 > 200 then (some (([] : List Int), 2)) else (if a1 = 0 then ((runs_runBits.f k a0 a1).bind fun t205 => (some (t205, 0))) else (if a1 = 1 then ((runs_runBits.f k a0 a1).bind fun t208 => (some (t208, 0))) else (some (([] : List Int), 2)))))
theorem runs_RunBits.mono : ∀ a0 a1 k, LeO (runs_RunBits.f k a0 a1) (runs_RunBits.f (k + 1) a0 a1) := by
 intro a0 a1 k
 unfold runs_RunBits.f
 repeat' first
   | (with_reducible exact runs_runBits.mono _ _ _)
   | (with_reducible first | exact LeO.refl _ | exact LeO.none _ | refine LeO.ite ?_ ?_ | refine LeO.bind ?_ (fun _ => ?_))
set_option maxHeartbeats 8000000 in
set_option maxRecDepth 100000 in
theorem runs_RunBits.calls (k : Nat) (a0 : Int) (a1 : Int) (r1 : List Int) (r2 : Int) (w : World) (h : runs_RunBits.f k a0 a1 = some (r1, r2)) :
  Calls Tryd.prog 7 #[.int .i64 a0, .int .i64 a1] w fun e w' => ∃ v0_ : Value, e = .returned (.tuple #[v0_, .int .i64 r2]) ∧ Kd.R (Kd.int .u8) 5 w' w.heap.size (fun _ => True) v0_ r1 ∧ Below w.heap.size w w' := by
 have HB := Aside0.mk (Below.refl w.heap.size w)
 have H := h
 unfold runs_RunBits.f at H
 clear h
 rcases iL H with H1 | H1 <;> clear H <;> obtain ⟨H, c3b0⟩ := H1
 ·simp only [Option.some.injEq, Prod.mk.injEq] at H
  obtain ⟨rfl, rfl⟩ := H
  go_enter Tryd.func7, Tryd.ntmps7
  go_wp2
  go_ret2
  exact ⟨_, re, by first | exact Kd.R_nil _ _ _ _ _ | exact Kd.N_nil _ _ _ _ _ | exact Kd.V_nil _ _ _ _ _ | exact Kd.Q_nil _ _ _ _ _ | exact Kd.S_nil _ _ _ _ _, bl⟩
 ·rcases iL H with H1 | H1 <;> clear H <;> obtain ⟨H, c4b0⟩ := H1
  ·simp only [Option.some.injEq, Prod.mk.injEq] at H
   obtain ⟨rfl, rfl⟩ := H
   go_enter Tryd.func7, Tryd.ntmps7
   go_wp2
   go_ret2
   exact ⟨_, re, by first | exact Kd.R_nil _ _ _ _ _ | exact Kd.N_nil _ _ _ _ _ | exact Kd.V_nil _ _ _ _ _ | exact Kd.Q_nil _ _ _ _ _ | exact Kd.S_nil _ _ _ _ _, bl⟩
  ·rcases iE H with H1 | H1 <;> clear H <;> obtain ⟨H, c5b0, c5b1, c5⟩ := H1
   ·obtain ⟨t205, A6, H⟩ := oB H
    try dsimp only at H
    simp only [Option.some.injEq, Prod.mk.injEq] at H
    obtain ⟨rfl, rfl⟩ := H
    go_enter Tryd.func7, Tryd.ntmps7
    go_wp2_with (first | (refine gF 22 22 Tryd.func22 #[.int .i64 a0, .int .i64 a1] rfl rfl ?_; (with_reducible refine (runs_runBits.calls k a0 a1 t205 _ A6.out).mono ?_); rintro e w7 ⟨v206, rfl, ho0, hb⟩; refine ⟨_, rfl, ?_⟩; have n_ := aC (Kd.R_lower ho0 bz) (aE (bs hb)); clear HB; obtain ⟨HO207, HB⟩ := n_))
    go_ret2
    exact ⟨_, re, rU HO207.out, bl⟩
   ·rcases iE H with H1 | H1 <;> clear H <;> obtain ⟨H, c8b0, c8b1, c8⟩ := H1
    ·obtain ⟨t208, A9, H⟩ := oB H
     try dsimp only at H
     simp only [Option.some.injEq, Prod.mk.injEq] at H
     obtain ⟨rfl, rfl⟩ := H
     go_enter Tryd.func7, Tryd.ntmps7
     go_wp2_with (first | (refine gF 22 22 Tryd.func22 #[.int .i64 a0, .int .i64 a1] rfl rfl ?_; (with_reducible refine (runs_runBits.calls k a0 a1 t208 _ A9.out).mono ?_); rintro e w10 ⟨v209, rfl, ho0, hb⟩; refine ⟨_, rfl, ?_⟩; have n_ := aC (Kd.R_lower ho0 bz) (aE (bs hb)); clear HB; obtain ⟨HO210, HB⟩ := n_))
     go_ret2
     exact ⟨_, re, rU HO210.out, bl⟩
    ·simp only [Option.some.injEq, Prod.mk.injEq] at H
     obtain ⟨rfl, rfl⟩ := H
     go_enter Tryd.func7, Tryd.ntmps7
     go_wp2
     go_ret2
     exact ⟨_, re, by first | exact Kd.R_nil _ _ _ _ _ | exact Kd.N_nil _ _ _ _ _ | exact Kd.V_nil _ _ _ _ _ | exact Kd.Q_nil _ _ _ _ _ | exact Kd.S_nil _ _ _ _ _, bl⟩
def incunableref02_SameBytes.l0 : Nat → List Int → List Int → Int → Int → Option (Bool)
 | 0, _, _, _, _ => none
 | k + 1, x0, x1, x12, x13 => if x13 < x12 then (if 0 ≤ x13 then (if x13 < (x0.length : Int) then (if x13 < (x1.length : Int) then (if (rd x0 x13) = (rd x1 x13) then (incunableref02_SameBytes.l0 k x0 x1 x12 (wrap64 (x13 + 1))) else (some false)) else (none)) else (none)) else (none)) else (some true)
def incunableref02_SameBytes.f (k : Nat) (l0 : List Int) (l1 : List Int) : Option (Bool) := if (l0.length : Int) = (l1.length : Int) then (incunableref02_SameBytes.l0 k l0 l1 (l0.length : Int) 0) else (some false)
theorem incunableref02_SameBytes.mono_l : ∀ k, (∀ y0 y1 y2 y3, LeO (incunableref02_SameBytes.l0 k y0 y1 y2 y3) (incunableref02_SameBytes.l0 (k + 1) y0 y1 y2 y3))
 | 0 => fun _ _ _ _ r h => by simp [incunableref02_SameBytes.l0] at h
 | k + 1 => by
  have ih0 := incunableref02_SameBytes.mono_l k
  ·intro y0 y1 y2 y3
   unfold incunableref02_SameBytes.l0
   repeat' first
   | (with_reducible exact ih0 _ _ _ _)
   | (with_reducible first | exact LeO.refl _ | exact LeO.none _ | refine LeO.ite ?_ ?_ | refine LeO.bind ?_ (fun _ => ?_))
theorem incunableref02_SameBytes.mono : ∀ a0 a1 k, LeO (incunableref02_SameBytes.f k a0 a1) (incunableref02_SameBytes.f (k + 1) a0 a1) := by
 intro a0 a1 k
 have ih0 := incunableref02_SameBytes.mono_l k
 unfold incunableref02_SameBytes.f
 repeat' first
   | (with_reducible exact ih0 _ _ _ _)
   | (with_reducible first | exact LeO.refl _ | exact LeO.none _ | refine LeO.ite ?_ ?_ | refine LeO.bind ?_ (fun _ => ?_))
set_option maxHeartbeats 8000000 in
set_option maxRecDepth 100000 in
theorem incunableref02_SameBytes.calls (k : Nat) (A0 : Option Addr) (c0 : Nat) (l0 : List Int) (A1 : Option Addr) (c1 : Nat) (l1 : List Int) (r : Bool) (w : World) (hr0 : Kd.C (Kd.int .u8) w A0 l0.length l0) (hc0 : l0.length ≤ c0) (hr1 : Kd.C (Kd.int .u8) w A1 l1.length l1) (hc1 : l1.length ≤ c1) (h : incunableref02_SameBytes.f k l0 l1 = some r) :
  Calls Tryd.prog 10 #[.slice A0 l0.length c0, .slice A1 l1.length c1] w fun e w' => e = .returned (.bool r) ∧ Drawn0 w w' := by
 have HR0 := Aside0.mk hr0
 have HC0 := Aside0.mk hc0
 clear hr0 hc0
 have HR1 := Aside0.mk hr1
 have HC1 := Aside0.mk hc1
 clear hr1 hc1
 have H := h
 unfold incunableref02_SameBytes.f at H
 clear h
 by_cases c3 : (l0.length : Int) = (l1.length : Int)
 ·rw [if_pos c3] at H
  have c3b0 := beq_iff_eq.mpr c3
  have c3b1 := bne_eq_false_iff_eq.mpr c3
  have c3b2 : (l0.length == l1.length) = true := by first | simpa using c3 | (simp at c3 ⊢; omega)
  clear c3
  have H' := Aside0.mk H
  clear H
  go_enter Tryd.func10, Tryd.ntmps10
  go_wp2
  go_loopg [13] k (fun kq v13 w' => ∃ (x13_1 : Int), v13 = .int .i64 x13_1 ∧ Aside0 (incunableref02_SameBytes.l0 kq l0 l1 (l0.length : Int) x13_1 = some r) ∧ Aside0 (kq ≤ k) ∧ Drawn0 w w')
  case atStart => exact ⟨(0), rq, H', ⟨Nat.le_refl _⟩, by repeat (first | exact Drawn0.refl _ | apply Drawn0.step)⟩
  case round =>
   clear H'
   try clear c1
   obtain ⟨x13_1, rfl, HA, HK1, ⟨m1, rfl⟩⟩ := hrel
   cases gk with
   | zero => exact absurd HA.out (by simp [incunableref02_SameBytes.l0])
   | succ k1 =>
    have H := HA.out
    clear HA
    simp only [incunableref02_SameBytes.l0] at H
    rcases iL H with H1 | H1 <;> clear H <;> obtain ⟨H, c4b0⟩ := H1
    ·by_cases c5 : 0 ≤ x13_1
     ·rw [if_pos c5] at H
      have c5b0 := decide_eq_true c5
      clear c5
      by_cases c6 : x13_1 < (l0.length : Int)
      ·rw [if_pos c6] at H
       have c6b0 := decide_eq_true c6
       clear c6
       by_cases c7 : x13_1 < (l1.length : Int)
       ·rw [if_pos c7] at H
        have c7b0 := decide_eq_true c7
        clear c7
        rcases iE H with H1 | H1 <;> clear H <;> obtain ⟨H, c8b0, c8b1, c8⟩ := H1
        ·have H' := Aside0.mk H
         clear H
         have p211 : 0 ≤ (x13_1 : Int) := dt
         have q211 : x13_1 < (l0.length : Int) := dt
         obtain ⟨ad211, e211, hx211_0⟩ := Kd.at_int HR0.out x13_1 p211 q211
         cases e211
         replace p211 := eq_true p211
         replace q211 := eq_true q211
         have p212 : 0 ≤ (x13_1 : Int) := dt
         have q212 : x13_1 < (l1.length : Int) := dt
         obtain ⟨ad212, e212, hx212_0⟩ := Kd.at_int HR1.out x13_1 p212 q212
         cases e212
         replace p212 := eq_true p212
         replace q212 := eq_true q212
         go_wp2
         repeat (go_quiet (fail); try go_wp2)
         go_roundg k1
         case measure => have := HK1.out; omega
         case rel => exact ⟨(wrap64 (x13_1 + 1)), rq, H', ⟨by have := HK1.out; omega⟩, by repeat (first | exact Drawn0.refl _ | apply Drawn0.step)⟩
        ·obtain rfl := Option.some.inj H
         have p211 : 0 ≤ (x13_1 : Int) := dt
         have q211 : x13_1 < (l0.length : Int) := dt
         obtain ⟨ad211, e211, hx211_0⟩ := Kd.at_int HR0.out x13_1 p211 q211
         cases e211
         replace p211 := eq_true p211
         replace q211 := eq_true q211
         have p212 : 0 ≤ (x13_1 : Int) := dt
         have q212 : x13_1 < (l1.length : Int) := dt
         obtain ⟨ad212, e212, hx212_0⟩ := Kd.at_int HR1.out x13_1 p212 q212
         cases e212
         replace p212 := eq_true p212
         replace q212 := eq_true q212
         go_wp2
         repeat (go_quiet (fail); try go_wp2)
         go_ret
         exact ⟨by first | rfl | (simp; done) | (simp [*]; done), by repeat (first | exact Drawn0.refl _ | apply Drawn0.step)⟩
       ·rw [if_neg c7] at H
        exact absurd H (by simp)
      ·rw [if_neg c6] at H
       exact absurd H (by simp)
     ·rw [if_neg c5] at H
      exact absurd H (by simp)
    ·obtain rfl := Option.some.inj H
     go_wp2
     go_ret
     exact ⟨by first | rfl | (simp; done) | (simp [*]; done), by repeat (first | exact Drawn0.refl _ | apply Drawn0.step)⟩
 ·rw [if_neg c3] at H
  have c3b0 := beq_eq_false_iff_ne.mpr c3
  have c3b1 := bne_iff_ne.mpr c3
  have c3b2 : (l0.length == l1.length) = false := by first | simpa using c3 | (simp at c3 ⊢; omega)
  obtain rfl := Option.some.inj H
  go_enter Tryd.func10, Tryd.ntmps10
  go_wp2
  go_ret
  exact ⟨by first | rfl | (simp; done) | (simp [*]; done), by repeat (first | exact Drawn0.refl _ | apply Drawn0.step)⟩
def runs_isRow_1.f (a0 : Int) : Option (Bool) := some (decide (a0 > 1))
set_option maxHeartbeats 8000000 in
set_option maxRecDepth 100000 in
theorem runs_isRow_1.calls (a0 : Int) (r : Bool) (w : World) (h : runs_isRow_1.f a0 = some r) :
  Calls Tryd.prog 35 #[.int .u8 a0] w fun e w' => e = .returned (.bool r) ∧ Drawn0 w w' := by
 have H : (some (decide (a0 > 1))) = some r := h
 clear h
 obtain rfl := Option.some.inj H
 go_enter Tryd.func35, Tryd.ntmps35
 go_wp2
 go_ret
 exact ⟨by first | rfl | (simp; done) | (simp [*]; done), by repeat (first | exact Drawn0.refl _ | apply Drawn0.step)⟩
def slices_IndexFunc_byte_byte_35.l0 : Nat → List Int → Int → Int → Option (Int)
 | 0, _, _, _ => none
 | k + 1, x0, x7, x8 => if x8 < x7 then (if 0 ≤ x8 then (if x8 < (x0.length : Int) then ((runs_isRow_1.f (rd x0 x8)).bind fun t214 => (if t214 = true then (some x8) else (slices_IndexFunc_byte_byte_35.l0 k x0 x7 (wrap64 (x8 + 1))))) else (none)) else (none)) else (some (-1))
def slices_IndexFunc_byte_byte_35.f (k : Nat) (l0 : List Int)  : Option (Int) := slices_IndexFunc_byte_byte_35.l0 k l0 (l0.length : Int) 0
theorem slices_IndexFunc_byte_byte_35.mono_l : ∀ k, (∀ y0 y1 y2, LeO (slices_IndexFunc_byte_byte_35.l0 k y0 y1 y2) (slices_IndexFunc_byte_byte_35.l0 (k + 1) y0 y1 y2))
 | 0 => fun _ _ _ r h => by simp [slices_IndexFunc_byte_byte_35.l0] at h
 | k + 1 => by
  have ih0 := slices_IndexFunc_byte_byte_35.mono_l k
  ·intro y0 y1 y2
   unfold slices_IndexFunc_byte_byte_35.l0
   repeat' first
   | (with_reducible exact ih0 _ _ _)
   | (with_reducible first | exact LeO.refl _ | exact LeO.none _ | refine LeO.ite ?_ ?_ | refine LeO.bind ?_ (fun _ => ?_))
theorem slices_IndexFunc_byte_byte_35.mono : ∀ a0 k, LeO (slices_IndexFunc_byte_byte_35.f k a0) (slices_IndexFunc_byte_byte_35.f (k + 1) a0) := by
 intro a0 k
 have ih0 := slices_IndexFunc_byte_byte_35.mono_l k
 unfold slices_IndexFunc_byte_byte_35.f
 repeat' first
   | (with_reducible exact ih0 _ _ _)
   | (with_reducible first | exact LeO.refl _ | exact LeO.none _ | refine LeO.ite ?_ ?_ | refine LeO.bind ?_ (fun _ => ?_))
set_option maxHeartbeats 8000000 in
set_option maxRecDepth 100000 in
theorem slices_IndexFunc_byte_byte_35.calls (k : Nat) (A0 : Option Addr) (c0 : Nat) (l0 : List Int)  (r : Int) (w : World) (hr0 : Kd.C (Kd.int .u8) w A0 l0.length l0) (hc0 : l0.length ≤ c0) (h : slices_IndexFunc_byte_byte_35.f k l0 = some r) :
  Calls Tryd.prog 51 #[.slice A0 l0.length c0, .func (.func 35) #[] #[]] w fun e w' => e = .returned (.int .i64 r) ∧ Below w.heap.size w w' := by
 have HR0 := Aside0.mk hr0
 have HC0 := Aside0.mk hc0
 clear hr0 hc0
 have HB := Aside0.mk (Below.refl w.heap.size w)
 have H : (slices_IndexFunc_byte_byte_35.l0 k l0 (l0.length : Int) 0) = some r := h
 clear h
 have H' := Aside0.mk H
 clear H
 go_enter Tryd.func51, Tryd.ntmps51
 go_wp2
 go_loopg [8] k (fun kq v8 w' => ∃ (x8_1 : Int), v8 = .int .i64 x8_1 ∧ Aside0 (slices_IndexFunc_byte_byte_35.l0 kq l0 (l0.length : Int) x8_1 = some r) ∧ Aside0 (kq ≤ k) ∧ Aside0 (Below w.heap.size w w'))
 case atStart => exact ⟨(0), rq, H', ⟨Nat.le_refl _⟩, ⟨bl⟩⟩
 case round =>
  clear H'
  obtain ⟨x8_1, rfl, HA, HK1, HB⟩ := hrel
  cases gk with
  | zero => exact absurd HA.out (by simp [slices_IndexFunc_byte_byte_35.l0])
  | succ k1 =>
   have H := HA.out
   clear HA
   simp only [slices_IndexFunc_byte_byte_35.l0] at H
   rcases iL H with H1 | H1 <;> clear H <;> obtain ⟨H, c3b0⟩ := H1
   ·by_cases c4 : 0 ≤ x8_1
    ·rw [if_pos c4] at H
     have c4b0 := decide_eq_true c4
     clear c4
     by_cases c5 : x8_1 < (l0.length : Int)
     ·rw [if_pos c5] at H
      have c5b0 := decide_eq_true c5
      clear c5
      obtain ⟨t214, A6, H⟩ := oB H
      try dsimp only at H
      by_cases c7 : t214 = true
      ·subst c7
       rw [if_pos rfl] at H
       obtain rfl := Option.some.inj H
       have p213 : 0 ≤ (x8_1 : Int) := dt
       have q213 : x8_1 < (l0.length : Int) := dt
       obtain ⟨ad213, e213, hx213_0⟩ := Kd.at_int HR0.out x8_1 p213 q213
       cases e213
       replace hx213_0 := hcB HB.out hx213_0
       replace p213 := eq_true p213
       replace q213 := eq_true q213
       go_wp2_with (first | ((with_reducible refine gate_value rfl ?_); refine goesV_ (some 16) rfl rfl Tryd.func35 (by kernel_rfl) rfl #[.int .u8 (rd l0 x8_1)] rfl rfl (by (try simp only [List.map_toArray, List.map_cons, List.map_nil]); first | done | rfl | (simp only [List.length_drop, List.length_take]; rfl)) ?_; (with_reducible refine (runs_isRow_1.calls (rd l0 x8_1) true _ A6.out).mono ?_); rintro e w' ⟨rfl, ⟨nd, rfl⟩⟩; refine ⟨_, rfl, ?_⟩))
       go_ret
       exact ⟨re, bl⟩
      ·replace c7 := Bool.eq_false_iff.mpr c7
       subst c7
       rw [if_neg Bool.false_ne_true] at H
       have H' := Aside0.mk H
       clear H
       have p213 : 0 ≤ (x8_1 : Int) := dt
       have q213 : x8_1 < (l0.length : Int) := dt
       obtain ⟨ad213, e213, hx213_0⟩ := Kd.at_int HR0.out x8_1 p213 q213
       cases e213
       replace hx213_0 := hcB HB.out hx213_0
       replace p213 := eq_true p213
       replace q213 := eq_true q213
       go_wp2_with (first | ((with_reducible refine gate_value rfl ?_); refine goesV_ (some 16) rfl rfl Tryd.func35 (by kernel_rfl) rfl #[.int .u8 (rd l0 x8_1)] rfl rfl (by (try simp only [List.map_toArray, List.map_cons, List.map_nil]); first | done | rfl | (simp only [List.length_drop, List.length_take]; rfl)) ?_; (with_reducible refine (runs_isRow_1.calls (rd l0 x8_1) false _ A6.out).mono ?_); rintro e w' ⟨rfl, ⟨nd, rfl⟩⟩; refine ⟨_, rfl, ?_⟩))
       go_roundg k1
       case measure => have := HK1.out; omega
       case rel => exact ⟨(wrap64 (x8_1 + 1)), rq, H', ⟨by have := HK1.out; omega⟩, ⟨bl⟩⟩
     ·rw [if_neg c5] at H
      exact absurd H (by simp)
    ·rw [if_neg c4] at H
     exact absurd H (by simp)
   ·obtain rfl := Option.some.inj H
    go_wp2
    go_ret
    exact ⟨re, bl⟩
def slices_ContainsFunc_byte_byte_35.f (k : Nat) (l0 : List Int)  : Option (Bool) := (slices_IndexFunc_byte_byte_35.f k l0).bind fun t215 => (some (decide (t215 ≥ 0)))
theorem slices_ContainsFunc_byte_byte_35.mono : ∀ a0 k, LeO (slices_ContainsFunc_byte_byte_35.f k a0) (slices_ContainsFunc_byte_byte_35.f (k + 1) a0) := by
 intro a0 k
 unfold slices_ContainsFunc_byte_byte_35.f
 repeat' first
   | (with_reducible exact slices_IndexFunc_byte_byte_35.mono _ _)
   | (with_reducible first | exact LeO.refl _ | exact LeO.none _ | refine LeO.ite ?_ ?_ | refine LeO.bind ?_ (fun _ => ?_))
set_option maxHeartbeats 8000000 in
set_option maxRecDepth 100000 in
theorem slices_ContainsFunc_byte_byte_35.calls (k : Nat) (A0 : Option Addr) (c0 : Nat) (l0 : List Int)  (r : Bool) (w : World) (hr0 : Kd.C (Kd.int .u8) w A0 l0.length l0) (hc0 : l0.length ≤ c0) (h : slices_ContainsFunc_byte_byte_35.f k l0 = some r) :
  Calls Tryd.prog 34 #[.slice A0 l0.length c0, .func (.func 35) #[] #[]] w fun e w' => e = .returned (.bool r) ∧ Below w.heap.size w w' := by
 have HR0 := Aside0.mk hr0
 have HC0 := Aside0.mk hc0
 clear hr0 hc0
 have HB := Aside0.mk (Below.refl w.heap.size w)
 have H : ((slices_IndexFunc_byte_byte_35.f k l0).bind fun t215 => (some (decide (t215 ≥ 0)))) = some r := h
 clear h
 obtain ⟨t215, A3, H⟩ := oB H
 try dsimp only at H
 obtain rfl := Option.some.inj H
 go_enter Tryd.func34, Tryd.ntmps34
 go_wp2_with (first | (refine gF 51 7 Tryd.func51 #[.slice A0 l0.length c0, .func (.func 35) #[] #[]] rfl rfl ?_; (with_reducible refine (slices_IndexFunc_byte_byte_35.calls k _ _ l0  t215 _ ?side1 ?side2 A3.out).mono ?_); (case side1 => exact cU HR0.out); (case side2 => exact HC0.out); rintro e w4 ⟨rfl, hb⟩; refine ⟨_, rfl, ?_⟩; have n_ := aE (bs hb); clear HB; have HB := n_; clear n_))
 go_ret
 exact ⟨re, bl⟩
def runs_isRow.f (k : Nat) (l0 : List Int) : Option (Bool) := if (l0.length : Int) ≤ 200 then ((slices_ContainsFunc_byte_byte_35.f k l0).bind fun t216 => (some (!t216))) else (some false)
theorem runs_isRow.mono : ∀ a0 k, LeO (runs_isRow.f k a0) (runs_isRow.f (k + 1) a0) := by
 intro a0 k
 unfold runs_isRow.f
 repeat' first
   | (with_reducible exact slices_ContainsFunc_byte_byte_35.mono _ _)
   | (with_reducible first | exact LeO.refl _ | exact LeO.none _ | refine LeO.ite ?_ ?_ | refine LeO.bind ?_ (fun _ => ?_))
set_option maxHeartbeats 8000000 in
set_option maxRecDepth 100000 in
theorem runs_isRow.calls (k : Nat) (A0 : Option Addr) (c0 : Nat) (l0 : List Int) (r : Bool) (w : World) (hr0 : Kd.C (Kd.int .u8) w A0 l0.length l0) (hc0 : l0.length ≤ c0) (h : runs_isRow.f k l0 = some r) :
  Calls Tryd.prog 20 #[.slice A0 l0.length c0] w fun e w' => e = .returned (.bool r) ∧ Below w.heap.size w w' := by
 have HR0 := Aside0.mk hr0
 have HC0 := Aside0.mk hc0
 clear hr0 hc0
 have HB := Aside0.mk (Below.refl w.heap.size w)
 have H := h
 unfold runs_isRow.f at H
 clear h
 by_cases c2 : (l0.length : Int) ≤ 200
 ·rw [if_pos c2] at H
  have c2b0 := decide_eq_true c2
  have c2b1 : decide (l0.length ≤ 200) = true := decide_eq_true (by omega)
  clear c2
  obtain ⟨t216, A3, H⟩ := oB H
  try dsimp only at H
  obtain rfl := Option.some.inj H
  go_enter Tryd.func20, Tryd.ntmps20
  go_wp2_with (first | (go_at_call 34; (with_reducible refine (slices_ContainsFunc_byte_byte_35.calls k _ _ l0  t216 _ ?side1 ?side2 A3.out).mono ?_); (case side1 => exact cU HR0.out); (case side2 => exact HC0.out); rintro e w4 ⟨rfl, hb⟩; have n_ := aE (bs hb); clear HB; have HB := n_; clear n_))
  go_ret
  exact ⟨re, bl⟩
 ·rw [if_neg c2] at H
  have c2b0 := decide_eq_false c2
  have c2b1 : decide (l0.length ≤ 200) = false := decide_eq_false (by omega)
  clear c2
  obtain rfl := Option.some.inj H
  go_enter Tryd.func20, Tryd.ntmps20
  go_wp2
  go_ret
  exact ⟨re, bl⟩
def runs_change.l0 : Nat → List Int → Int → Int → Option (Int)
 | 0, _, _, _ => none
 | k + 1, x0, x2, x7 => if x7 < (x0.length : Int) then (if 0 ≤ x7 then (if (rd x0 x7) = x2 then (some (mn x7 (x0.length : Int))) else (runs_change.l0 k x0 x2 (wrap64 (x7 + 1)))) else (none)) else (some (mn x7 (x0.length : Int)))
def runs_change.f (k : Nat) (l0 : List Int) (a1 : Int) (a2 : Int) : Option (Int) := runs_change.l0 k l0 a2 (wrap64 (a1 + 1))
theorem runs_change.mono_l : ∀ k, (∀ y0 y1 y2, LeO (runs_change.l0 k y0 y1 y2) (runs_change.l0 (k + 1) y0 y1 y2))
 | 0 => fun _ _ _ r h => by simp [runs_change.l0] at h
 | k + 1 => by
  have ih0 := runs_change.mono_l k
  ·intro y0 y1 y2
   unfold runs_change.l0
   repeat' first
   | (with_reducible exact ih0 _ _ _)
   | (with_reducible first | exact LeO.refl _ | exact LeO.none _ | refine LeO.ite ?_ ?_ | refine LeO.bind ?_ (fun _ => ?_))
theorem runs_change.mono : ∀ a0 a1 a2 k, LeO (runs_change.f k a0 a1 a2) (runs_change.f (k + 1) a0 a1 a2) := by
 intro a0 a1 a2 k
 have ih0 := runs_change.mono_l k
 unfold runs_change.f
 repeat' first
   | (with_reducible exact ih0 _ _ _)
   | (with_reducible first | exact LeO.refl _ | exact LeO.none _ | refine LeO.ite ?_ ?_ | refine LeO.bind ?_ (fun _ => ?_))
set_option maxHeartbeats 8000000 in
set_option maxRecDepth 100000 in
theorem runs_change.calls (k : Nat) (A0 : Option Addr) (c0 : Nat) (l0 : List Int) (a1 : Int) (a2 : Int) (r : Int) (w : World) (hr0 : Kd.C (Kd.int .u8) w A0 l0.length l0) (hc0 : l0.length ≤ c0) (h : runs_change.f k l0 a1 a2 = some r) :
  Calls Tryd.prog 41 #[.slice A0 l0.length c0, .int .i64 a1, .int .u8 a2] w fun e w' => e = .returned (.int .i64 r) ∧ Below w.heap.size w w' := by
 have HR0 := Aside0.mk hr0
 have HC0 := Aside0.mk hc0
 clear hr0 hc0
 have HB := Aside0.mk (Below.refl w.heap.size w)
 have H : (runs_change.l0 k l0 a2 (wrap64 (a1 + 1))) = some r := h
 clear h
 have H' := Aside0.mk H
 clear H
 go_enter Tryd.func41, Tryd.ntmps41
 go_wp2
 go_loopg [7] k (fun kq v7 w' => ∃ (x7_1 : Int), v7 = .int .i64 x7_1 ∧ Aside0 (runs_change.l0 kq l0 a2 x7_1 = some r) ∧ Aside0 (kq ≤ k) ∧ Aside0 (Below w.heap.size w w'))
 case atStart => exact ⟨(wrap64 (a1 + 1)), rq, H', ⟨Nat.le_refl _⟩, ⟨bl⟩⟩
 case round =>
  clear H'
  obtain ⟨x7_1, rfl, HA, HK1, HB⟩ := hrel
  cases gk with
  | zero => exact absurd HA.out (by simp [runs_change.l0])
  | succ k1 =>
   have H := HA.out
   clear HA
   simp only [runs_change.l0] at H
   rcases iL H with H1 | H1 <;> clear H <;> obtain ⟨H, c4b0⟩ := H1
   ·by_cases c5 : 0 ≤ x7_1
    ·rw [if_pos c5] at H
     have c5b0 := decide_eq_true c5
     clear c5
     rcases iE H with H1 | H1 <;> clear H <;> obtain ⟨H, c6b0, c6b1, c6⟩ := H1
     ·obtain ⟨ji7, hji7⟩ : ∃ j_ : Int, (mn x7_1 (l0.length : Int)) = j_ := ⟨_, rfl⟩
      replace H : (some ji7) = some r := by first | (rw [hji7] at H; exact H) | (simp only [hji7] at H ⊢; exact H)
      have hji7_ : (if (l0.length : Int) < x7_1 then (l0.length : Int) else x7_1) = ji7 := hji7
      obtain rfl := Option.some.inj H
      have p217 : 0 ≤ (x7_1 : Int) := dt
      have q217 : x7_1 < (l0.length : Int) := dt
      obtain ⟨ad217, e217, hx217_0⟩ := Kd.at_int HR0.out x7_1 p217 q217
      cases e217
      replace hx217_0 := hcB HB.out hx217_0
      replace p217 := eq_true p217
      replace q217 := eq_true q217
      go_wp2
      go_ret
      exact ⟨by first | rfl | (simp [errW_none, errW_some] <;> rfl) | (simp only [← hji7]; first | rfl | (simp [errW_none, errW_some] <;> rfl)) | (simp [*, errW_none, errW_some] <;> rfl), bl⟩
     ·have H' := Aside0.mk H
      clear H
      have p217 : 0 ≤ (x7_1 : Int) := dt
      have q217 : x7_1 < (l0.length : Int) := dt
      obtain ⟨ad217, e217, hx217_0⟩ := Kd.at_int HR0.out x7_1 p217 q217
      cases e217
      replace hx217_0 := hcB HB.out hx217_0
      replace p217 := eq_true p217
      replace q217 := eq_true q217
      go_wp2
      go_roundg k1
      case measure => have := HK1.out; omega
      case rel => exact ⟨(wrap64 (x7_1 + 1)), rq, H', ⟨by have := HK1.out; omega⟩, ⟨bl⟩⟩
    ·rw [if_neg c5] at H
     exact absurd H (by simp)
   ·obtain ⟨ji8, hji8⟩ : ∃ j_ : Int, (mn x7_1 (l0.length : Int)) = j_ := ⟨_, rfl⟩
    replace H : (some ji8) = some r := by first | (rw [hji8] at H; exact H) | (simp only [hji8] at H ⊢; exact H)
    have hji8_ : (if (l0.length : Int) < x7_1 then (l0.length : Int) else x7_1) = ji8 := hji8
    obtain rfl := Option.some.inj H
    go_wp2
    go_ret
    exact ⟨by first | rfl | (simp [errW_none, errW_some] <;> rfl) | (simp only [← hji8]; first | rfl | (simp [errW_none, errW_some] <;> rfl)) | (simp [*, errW_none, errW_some] <;> rfl), bl⟩
end Go.Proofs.YtidgpjcgoocpeaaDoor.PTopRuns
