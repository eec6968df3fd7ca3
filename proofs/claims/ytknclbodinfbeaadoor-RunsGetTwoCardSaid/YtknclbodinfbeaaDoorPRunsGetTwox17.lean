-- Written by a program of this session (wip/tools/myprint.py) over the kit's print. Not trusted: Lean checks it.
import Derived.Test.YtknclbodinfbeaaDoorPRunsGetTwox0
import Derived.Test.YtknclbodinfbeaaDoorPRunsGetTwox6
import Derived.Test.YtknclbodinfbeaaDoorPRunsGetTwox7
import Derived.Test.YtknclbodinfbeaaDoorPRunsGetTwox11
import Derived.Test.YtknclbodinfbeaaDoorPRunsGetTwox12
import Derived.Test.YtknclbodinfbeaaDoorPRunsGetTwox16
namespace Go.Proofs.YtknclbodinfbeaaDoor.PRunsGetTwo
open Go.RowKit Go.Proofs.YtknclbodinfbeaaDoorW.PrintWords Go.Proofs.YtknclbodinfbeaaDoorW.PrintLast Go.Proofs.YtknclbodinfbeaaDoorW.PrintMore
attribute [local go_sem] max2_int min2_int max_two min_two max_three min_three max_four min_four   -- for this text's walks alone
set_option linter.unusedVariables false
set_option linter.unusedSimpArgs false
def incunableref06_Get.l0 : Nat → List Int → Int → Int → Bool → List Int → Int → Int → Int → Int → List Int → Option (Int × Int × List Int × Int × Int)
 | 0, _, _, _, _, _, _, _, _, _, _ => none
 | k + 1, x0, x1, x2, x3, x12, x13, x14, x524000, x524001, x524002 => if x14 < x2 then (if x3 = true then ((incunableref06_twoRow.f k x0 x13 x12).bind fun bt527 => (if bt527.2.2 = 0 then (if x524002.length + bt527.1.length < 140737488355328 then (incunableref06_Get.l0 k x0 x1 x2 x3 bt527.1 bt527.2.1 (wrap64 (x14 + 1)) x524000 x524001 (x524002 ++ bt527.1)) else (none)) else (some (0, 0, ([] : List Int), 0, bt527.2.2)))) else ((incunableref06_oneRow.f k x0 x13 x1).bind fun bt535 => (if bt535.2.2 = 0 then (if x524002.length + bt535.1.length < 140737488355328 then (incunableref06_Get.l0 k x0 x1 x2 x3 bt535.1 bt535.2.1 (wrap64 (x14 + 1)) x524000 x524001 (x524002 ++ bt535.1)) else (none)) else (some (0, 0, ([] : List Int), 0, bt535.2.2))))) else (some (x524000, x524001, x524002, x13, 0))
def incunableref06_Get.f (k : Nat) (l0 : List Int) (a1 : Int) (a2 : Int) (a3 : Bool) : Option (Int × Int × List Int × Int × Int) := (incunableref06_IsSize.f a1 a2).bind fun t522 => (if t522 = true then (if 0 ≤ a1 then (if (a1 : Int).toNat ≤ 281474976710656 then (incunableref06_Get.l0 k l0 a1 a2 a3 (List.replicate (a1 : Int).toNat 0) 0 0 a1 a2 ([] : List Int)) else (none)) else (none)) else (some (0, 0, ([] : List Int), 0, 2)))
theorem incunableref06_Get.mono_l : ∀ k, (∀ y0 y1 y2 y3 y4 y5 y6 y7 y8 y9, LeO (incunableref06_Get.l0 k y0 y1 y2 y3 y4 y5 y6 y7 y8 y9) (incunableref06_Get.l0 (k + 1) y0 y1 y2 y3 y4 y5 y6 y7 y8 y9))
 | 0 => fun _ _ _ _ _ _ _ _ _ _ r h => by simp [incunableref06_Get.l0] at h
 | k + 1 => by
  have ih0 := incunableref06_Get.mono_l k
  ·intro y0 y1 y2 y3 y4 y5 y6 y7 y8 y9
   unfold incunableref06_Get.l0
   repeat' first
   | (with_reducible exact ih0 _ _ _ _ _ _ _ _ _ _)
   | (with_reducible exact incunableref06_oneRow.mono _ _ _ _)
   | (with_reducible exact incunableref06_twoRow.mono _ _ _ _)
   | (with_reducible first | exact LeO.refl _ | exact LeO.none _ | refine LeO.ite ?_ ?_ | refine LeO.bind ?_ (fun _ => ?_))
   | exact ih0 _ _ _ _ _ _ _ _ _ _
   | exact incunableref06_oneRow.mono _ _ _ _
   | exact incunableref06_twoRow.mono _ _ _ _
   | exact LeO.none _ | refine LeO.ite ?_ ?_ | refine LeO.bind ?_ (fun _ => ?_)
theorem incunableref06_Get.mono : ∀ a0 a1 a2 a3 k, LeO (incunableref06_Get.f k a0 a1 a2 a3) (incunableref06_Get.f (k + 1) a0 a1 a2 a3) := by
 intro a0 a1 a2 a3 k
 have ih0 := incunableref06_Get.mono_l k
 unfold incunableref06_Get.f
 repeat' first
   | (with_reducible exact ih0 _ _ _ _ _ _ _ _ _ _)
   | (with_reducible exact incunableref06_oneRow.mono _ _ _ _)
   | (with_reducible exact incunableref06_twoRow.mono _ _ _ _)
   | (with_reducible first | exact LeO.refl _ | exact LeO.none _ | refine LeO.ite ?_ ?_ | refine LeO.bind ?_ (fun _ => ?_))
   | exact ih0 _ _ _ _ _ _ _ _ _ _
   | exact incunableref06_oneRow.mono _ _ _ _
   | exact incunableref06_twoRow.mono _ _ _ _
   | exact LeO.none _ | refine LeO.ite ?_ ?_ | refine LeO.bind ?_ (fun _ => ?_)
set_option maxHeartbeats 8000000 in
set_option maxRecDepth 100000 in
theorem incunableref06_Get.calls (k : Nat) (A0 : Option Addr) (c0 : Nat) (l0 : List Int) (a1 : Int) (a2 : Int) (a3 : Bool) (r1 : Int) (r2 : Int) (r3 : List Int) (r4 : Int) (r5 : Int) (w : World) (hr0 : Kd.C (Kd.int .u8) w A0 l0.length l0) (hc0 : l0.length ≤ c0) (h : incunableref06_Get.f k l0 a1 a2 a3 = some (r1, r2, r3, r4, r5)) :
  Calls Tryd.prog 55 #[.slice A0 l0.length c0, .int .i64 a1, .int .i64 a2, .bool a3] w fun e w' => ∃ v2_ : Value, e = .returned (.tuple #[.agg #[.int .i64 r1, .int .i64 r2, v2_], .int .i64 r4, .int .i64 r5]) ∧ Kd.R (Kd.int .u8) 5 w' w.heap.size (fun _ => True) v2_ r3 ∧ Below w.heap.size w w' := by
 have hu48 := Tryd.underlying48
 have HR0 := Aside0.mk hr0
 have HC0 := Aside0.mk hc0
 clear hr0 hc0
 have HB := Aside0.mk (Below.refl w.heap.size w)
 have H : ((incunableref06_IsSize.f a1 a2).bind fun t522 => (if t522 = true then (if 0 ≤ a1 then (if (a1 : Int).toNat ≤ 281474976710656 then (incunableref06_Get.l0 k l0 a1 a2 a3 (List.replicate (a1 : Int).toNat 0) 0 0 a1 a2 ([] : List Int)) else (none)) else (none)) else (some (0, 0, ([] : List Int), 0, 2)))) = some (r1, r2, r3, r4, r5) := h
 clear h
 replace H := Option.bind_eq_some_iff.mp H
 obtain ⟨t522, A50, H⟩ := H
 replace H : (if t522 = true then (if 0 ≤ a1 then (if (a1 : Int).toNat ≤ 281474976710656 then (incunableref06_Get.l0 k l0 a1 a2 a3 (List.replicate (a1 : Int).toNat 0) 0 0 a1 a2 ([] : List Int)) else (none)) else (none)) else (some (0, 0, ([] : List Int), 0, 2))) = some (r1, r2, r3, r4, r5) := H
 have A5 := Aside0.mk A50
 clear A50
 by_cases c6 : t522 = true
 ·subst c6
  have H1 : (if 0 ≤ a1 then (if (a1 : Int).toNat ≤ 281474976710656 then (incunableref06_Get.l0 k l0 a1 a2 a3 (List.replicate (a1 : Int).toNat 0) 0 0 a1 a2 ([] : List Int)) else (none)) else (none)) = some (r1, r2, r3, r4, r5) := by rw [if_pos rfl] at H; exact H
  clear H
  have H := H1
  clear H1
  by_cases c7 : 0 ≤ a1
  ·rw [if_pos c7] at H
   have c7b0 := eq_true c7
   have c7b1 := decide_eq_true c7
   clear c7
   by_cases c8 : (a1 : Int).toNat ≤ 281474976710656
   ·rw [if_pos c8] at H
    have c8b0 := eq_true c8
    have c8b1 := decide_eq_true c8
    clear c8
    obtain ⟨y524, hy_⟩ : ∃ y_ : List Int, y_ = (List.replicate (a1 : Int).toNat 0) := ⟨_, rfl⟩
    replace H : (incunableref06_Get.l0 k l0 a1 a2 a3 y524 0 0 a1 a2 ([] : List Int)) = some (r1, r2, r3, r4, r5) := rh
    have Ny524 := aE hy_
    clear hy_
    have H' := Aside0.mk H
    clear H
    go_enter Tryd.func55, Tryd.ntmps55
    go_wp2_with (first | ((with_reducible refine gd 8 rfl ?_); refine bx 8 #[.int .i64 0, .int .i64 0, .slice none 0 0] 48 rfl rfl ?_; intro gb521 hg w9 hbox hb; have n_ := aC (bs hb) (aC hbox (aC (gz hg) (aE (gz hg)))); clear HB; obtain ⟨HB, BK521, GW521, GE521⟩ := n_; clear hb hbox hg) | ((with_reducible refine gf 51 rfl ?_); refine gL (some 19) rfl rfl Tryd.func51 rfl #[.int .i64 a1, .int .i64 a2] rfl ?_; (with_reducible refine (incunableref06_IsSize.calls a1 a2 true _ A5.out).mono ?_); rintro e w' ⟨rfl, ⟨nd, rfl⟩⟩; refine ⟨_, rfl, ?_⟩; (try (rw [drewN_self w9]; generalize hq_ : World.drewN w9 _ = w9; have n0_ : Aside0 (w9.heap[gb521]? = some (.cells #[.int .i64 0, .int .i64 0, .slice none 0 0] 48 (0, 0))) := ⟨by rw [← hq_]; exact (bU BK521.out)⟩; have n1_ : Aside0 (Below w.heap.size w w9) := ⟨by rw [← hq_]; exact bl⟩; clear BK521 HB hq_; have BK521 := n0_; have HB := n1_; clear n0_ n1_))) | ((with_reducible refine gd 11 rfl ?_); refine bx 11 #[.int .i64 0, .int .i64 0, .slice none 0 0] 48 rfl rfl ?_; intro gb523 hg w10 hbox hb; have n_ := aC (blk_below (bU BK521.out) hb) (aC (bs hb) (aC hbox (aC (gz hg) (aC (gz hg) (aC (gn hg (bU BK521.out)) (aE (gm hg (bU BK521.out)))))))); clear BK521 HB; obtain ⟨BK521, HB, BK523, GW523, GE523, NB521_523, NB523_521⟩ := n_; clear hb hbox hg; have hnb11 := NB523_521.out; have hnc11 := NB521_523.out; obtain ⟨hcz12_0, hcz12_1, hcz12_2, hfz12_0, hfz12_1, hfz12_2⟩ := cz3f BK523.out) | ((with_reducible refine gd 26 rfl ?_); refine Kd.R_make (Kd.int .u8) _ 5 rfl (N := 26) rfl 22 _ _ rfl a1 rfl rfl Tryd.underlying22 (.int .u8 0) 1 info5 rfl (by decide) (by omega) 0 (ok := fun _ => True) (okp := fun _ => True) rfl (fun _ hk => hk) trivial (dt) (Nat.le_trans (Nat.mul_le_mul_right _ (dt : a1.toNat ≤ 281474976710656)) (by omega)) (Below.refl _ _) (Nat.le_refl _) ?_; intro v525 w13 ho14 hb hg_ hnew_; clear hg_ hnew_; (first | rw [← Ny524.out] at ho14 | (simp only [Int.reduceToNat] at ho14; rw [← Ny524.out] at ho14)); have n_ := aC (Kd.R_lower ho14 bz) (aC (blk_below (g := gb521) (o := .cells #[.int .i64 0, .int .i64 0, .slice none 0 0] 48 (0, 0)) (by (with_reducible repeat (first | refine blk_drewN ?_ _ | refine blk_drew ?_ | refine blk_alloc ?_ _)); refine blk_far ?_ NB521_523.out _; (with_reducible repeat (first | refine blk_drewN ?_ _ | refine blk_drew ?_ | refine blk_alloc ?_ _)); refine blk_far ?_ NB521_523.out _; (with_reducible repeat (first | refine blk_drewN ?_ _ | refine blk_drew ?_ | refine blk_alloc ?_ _)); refine blk_far ?_ NB521_523.out _; (with_reducible repeat (first | refine blk_drewN ?_ _ | refine blk_drew ?_ | refine blk_alloc ?_ _)); exact BK521.out) hb) (aC (blk_below (g := gb523) (o := .cells #[.int .i64 a1, .int .i64 a2, .slice none 0 0] 48 (0, 0)) (by (with_reducible repeat (first | refine blk_drewN ?_ _ | refine blk_drew ?_ | refine blk_alloc ?_ _)); refine blk_put (cs := #[.int .i64 a1, .int .i64 a2, .slice none 0 0]) ?_ 2 _ rfl; (with_reducible repeat (first | refine blk_drewN ?_ _ | refine blk_drew ?_ | refine blk_alloc ?_ _)); refine blk_put (cs := #[.int .i64 a1, .int .i64 0, .slice none 0 0]) ?_ 1 _ rfl; (with_reducible repeat (first | refine blk_drewN ?_ _ | refine blk_drew ?_ | refine blk_alloc ?_ _)); refine blk_put (cs := #[.int .i64 0, .int .i64 0, .slice none 0 0]) ?_ 0 _ rfl; (with_reducible repeat (first | refine blk_drewN ?_ _ | refine blk_drew ?_ | refine blk_alloc ?_ _)); exact BK523.out) hb) (aE (bs hb)))); clear BK521 BK523 HB; obtain ⟨HO526, BK521, BK523, HB⟩ := n_; clear hb ho14))
    go_loopg [12, 13, 14] k (fun kq v12 v13 v14 w' => ∃ (x12_1 : List Int) (x13_1 : Int) (x14_1 : Int) (x522000_1 : Int) (x522001_1 : Int) (x524002_1 : List Int) (u524002 : Value), v13 = .int .i64 x13_1 ∧ v14 = .int .i64 x14_1 ∧ Aside0 (incunableref06_Get.l0 kq l0 a1 a2 a3 x12_1 x13_1 x14_1 a1 a2 x524002_1 = some (r1, r2, r3, r4, r5)) ∧ Aside0 (kq ≤ k) ∧ Aside0 (Kd.R (Kd.int .u8) 5 w' w.heap.size (fun k_ => some k_ ≠ (u524002 : Value).ownBlock) v12 x12_1) ∧ Aside0 (Kd.R (Kd.int .u8) 5 w' w.heap.size (fun k_ => some k_ ≠ (v12 : Value).ownBlock) u524002 x524002_1) ∧ Aside0 (w'.heap[gb521]? = some (.cells #[.int .i64 x522000_1, .int .i64 x522001_1, (.slice none 0 0)] 48 (0, 0))) ∧ Aside0 (w'.heap[gb523]? = some (.cells #[.int .i64 a1, .int .i64 a2, u524002] 48 (0, 0))) ∧ Aside0 (Below w.heap.size w w'))
    case atStart => exact ⟨(y524), (0), (0), (0), (0), (([] : List Int)), (.slice none 0 0), rq, rq, H', ⟨Nat.le_refl _⟩, ⟨rU (Kd.R_mono HO526.out (fun _ hk => (by simp [Value.ownBlock])))⟩, ⟨by first | exact Kd.R_nil _ _ _ _ _ | exact Kd.N_nil _ _ _ _ _ | exact Kd.V_nil _ _ _ _ _ | exact Kd.Q_nil _ _ _ _ _ | exact Kd.S_nil _ _ _ _ _⟩, ⟨bU BK521.out⟩, ⟨bU BK523.out⟩, ⟨bl⟩⟩
    case round =>
     clear H'
     obtain ⟨x12_1, x13_1, x14_1, x522000_1, x522001_1, x524002_1, u524002, rfl, rfl, HA, HK1, HO_12, HO_524002, BK521, BK523, HB⟩ := hrel
     cases gk with
     | zero => exact absurd HA.out (by simp [incunableref06_Get.l0])
     | succ k1 =>
      have H := HA.out
      clear HA
      simp only [incunableref06_Get.l0] at H
      by_cases c15 : x14_1 < a2
      ·rw [if_pos c15] at H
       have c15b0 := decide_eq_true c15
       clear c15
       by_cases c16 : a3 = true
       ·subst c16
        have H1 : ((incunableref06_twoRow.f k1 l0 x13_1 x12_1).bind fun bt527 => (if bt527.2.2 = 0 then (if x524002_1.length + bt527.1.length < 140737488355328 then (incunableref06_Get.l0 k1 l0 a1 a2 true bt527.1 bt527.2.1 (wrap64 (x14_1 + 1)) a1 a2 (x524002_1 ++ bt527.1)) else (none)) else (some (0, 0, ([] : List Int), 0, bt527.2.2)))) = some (r1, r2, r3, r4, r5) := by rw [if_pos rfl] at H; exact H
        clear H
        have H := H1
        clear H1
        replace H := Option.bind_eq_some_iff.mp H
        obtain ⟨⟨t527, t528, t529⟩, A170, H⟩ := H
        replace H : (if t529 = 0 then (if x524002_1.length + t527.length < 140737488355328 then (incunableref06_Get.l0 k1 l0 a1 a2 true t527 t528 (wrap64 (x14_1 + 1)) a1 a2 (x524002_1 ++ t527)) else (none)) else (some (0, 0, ([] : List Int), 0, t529))) = some (r1, r2, r3, r4, r5) := H
        have A17 := Aside0.mk A170
        clear A170
        by_cases c18 : t529 = 0
        ·rw [if_pos c18] at H
         have c18b0 := beq_iff_eq.mpr c18
         have c18b1 := bne_eq_false_iff_eq.mpr c18
         clear c18
         by_cases c19 : x524002_1.length + t527.length < 140737488355328
         ·rw [if_pos c19] at H
          have LMc19 := Aside0.mk c19
          clear c19
          obtain ⟨y532, hy_⟩ : ∃ y_ : List Int, y_ = (x524002_1 ++ t527) := ⟨_, rfl⟩
          replace H : (incunableref06_Get.l0 k1 l0 a1 a2 true t527 t528 (wrap64 (x14_1 + 1)) a1 a2 y532) = some (r1, r2, r3, r4, r5) := rh
          have Ny532 := aE hy_
          clear hy_
          have H' := Aside0.mk H
          clear H
          obtain ⟨Ao20, co20, eo20⟩ := Kd.R_slice HO_12.out
          subst eo20
          go_wp2_with (first | ((with_reducible refine gf 82 rfl ?_); refine gL (some 37) rfl rfl Tryd.func82 rfl #[.slice A0 l0.length c0, .int .i64 x13_1, .slice Ao20 x12_1.length co20] rfl ?_; (with_reducible refine (incunableref06_twoRow.calls k1 _ _ l0 x13_1 _ _ x12_1 t527 t528 t529 _ ?side1 ?side2 ?side3 ?side4 A17.out).mono ?_); (case side1 => exact cU (Kd.C_below HR0.out HB.out)); (case side2 => exact HC0.out); (case side3 => exact cU (Kd.R_reads' HO_12.out).2.2); (case side4 => exact (Kd.R_reads' HO_12.out).2.1); rintro e w21 ⟨v530, rfl, ho0, hb⟩; refine ⟨_, rfl, ?_⟩; have n_ := aC (Kd.R_elder' (rU HO_12.out) (Kd.R_base ho0) hb) (aC (Kd.R_elder' (rU HO_524002.out) (Kd.R_base ho0) hb) (aC (Kd.R_lower (Kd.R_new' (Kd.R_new' ho0 (Kd.R_lt (rU HO_12.out))) (Kd.R_lt (rU HO_524002.out))) bz) (aC (blk_below (bU BK521.out) hb) (aC (blk_below (bU BK523.out) hb) (aE (bs hb)))))); clear HO_12 HO_524002 BK521 BK523 HB; obtain ⟨HO_12, HO_524002, HO531, BK521, BK523, HB⟩ := n_; (try clear hb); (try clear ho0); have hnb22 := NB523_521.out; have hnc22 := NB521_523.out; obtain ⟨hcz23_0, hcz23_1, hcz23_2, hfz23_0, hfz23_1, hfz23_2⟩ := cz3f BK523.out; obtain ⟨Ao25, co25, eo25⟩ := Kd.R_slice HO531.out; subst eo25) | ((with_reducible refine gate_builtin (b := .append) (xs := #[.tmp 54, .tmp 55]) rfl ?_); at_builtin; refine Kd.R_append_rows (Kd.int .u8) (w0 := w) w.heap.size rfl (.tmp 54) (.tmp 55) 22 5 (.int .u8 0) 1 rfl Tryd.underlying22 info5 rfl (by decide) (by omega) u524002 x524002_1 t527 _ _ _ (fun k_ => some k_ ≠ (.slice Ao20 x12_1.length co20 : Value).ownBlock ∧ some k_ ≠ (.slice Ao25 t527.length co25 : Value).ownBlock) (fun _ => False) rfl rfl ?aO ?aR (fun _ _ h => h) (fun _ h => h.elim) ?aF ?aB ?aS ?aL ?_; (case aR => repeat (first | exact (Kd.R_reads' HO531.out).2.2 | (with_reducible refine Kd.C_alloc ?_ _) | (with_reducible refine Kd.C_drewN ?_ _) | (with_reducible refine Kd.C_drew ?_))); (case aB => exact bl); (case aF => exact (fun k_ hk => ⟨Kd.fresh' (Kd.R_lt (rU HO_12.out)) k_ hk, Kd.fresh' (Kd.R_lt (rU HO531.out)) k_ hk⟩)); (case aO => exact (rU HO_524002.out)); (case aS => exact bz); (case aL => have := LMc19.out; omega); intro v533 w24 ho hb hg hat; rw [← Ny532.out] at ho; have n_ := aC (Kd.R_after (ok := (fun k_ => some k_ ≠ (.slice Ao25 t527.length co25 : Value).ownBlock)) (rU (Kd.R_mono HO_12.out (fun _ hk => ⟨hk.2, hk.1⟩))) hg hat) (aC (blk_grown (bU BK521.out) hg (Kd.R_ne HO_524002.out BK521.out (by decide))) (aC (blk_grown (bU BK523.out) hg (Kd.R_ne HO_524002.out BK523.out (by decide))) (aC (Kd.R_after (ok := (fun k_ => some k_ ≠ (.slice Ao20 x12_1.length co20 : Value).ownBlock)) (rU (Kd.R_mono HO531.out (fun _ hk => ⟨hk.1.2, hk.2⟩))) hg hat) (aC hb (aE ho))))); clear HO_12 BK521 BK523 HO531 HB HO_524002; obtain ⟨HO_12, BK521, BK523, HO531, HB, HO534⟩ := n_; clear ho hb hg hat; obtain ⟨Ao26, co26, eo26⟩ := Kd.R_slice HO534.out; subst eo26; obtain ⟨hcz27_0, hcz27_1, hcz27_2, hfz27_0, hfz27_1, hfz27_2⟩ := cz3f BK523.out))
          go_roundg k1
          case measure => have := HK1.out; omega
          case rel => exact ⟨(t527), (t528), (wrap64 (x14_1 + 1)), (x522000_1), (x522001_1), (y532), (.slice Ao26 y532.length co26), rq, rq, H', ⟨by have := HK1.out; omega⟩, ⟨rU (Kd.R_mono (Kd.R_far (p := ⟨gb523, 2, none⟩) (Kd.R_types HO531.out BK523.out (by decide)) (fun _ hk => hk.2) (.slice Ao26 y532.length co26)) (fun _ hk => hk.1.2))⟩, ⟨rU (Kd.R_mono (Kd.R_far (p := ⟨gb523, 2, none⟩) (Kd.R_types HO534.out BK523.out (by decide)) (fun _ hk => hk.2) (.slice Ao26 y532.length co26)) (fun _ hk => hk.1.2))⟩, ⟨by (with_reducible repeat (first | refine blk_drewN ?_ _ | refine blk_drew ?_ | refine blk_alloc ?_ _)); refine blk_far ?_ NB521_523.out _; (with_reducible repeat (first | refine blk_drewN ?_ _ | refine blk_drew ?_ | refine blk_alloc ?_ _)); exact BK521.out⟩, ⟨by (with_reducible repeat (first | refine blk_drewN ?_ _ | refine blk_drew ?_ | refine blk_alloc ?_ _)); refine blk_put (cs := #[.int .i64 a1, .int .i64 a2, u524002]) ?_ 2 _ rfl; (with_reducible repeat (first | refine blk_drewN ?_ _ | refine blk_drew ?_ | refine blk_alloc ?_ _)); exact BK523.out⟩, ⟨bl⟩⟩
         ·rw [if_neg c19] at H
          exact absurd H (by simp)
        ·rw [if_neg c18] at H
         have c18b0 := beq_eq_false_iff_ne.mpr c18
         have c18b1 := bne_iff_ne.mpr c18
         simp only [Option.some.injEq, Prod.mk.injEq] at H
         obtain ⟨rfl, rfl, rfl, rfl, rfl⟩ := H
         obtain ⟨Ao28, co28, eo28⟩ := Kd.R_slice HO_12.out
         subst eo28
         go_wp2_with (first | ((with_reducible refine gf 82 rfl ?_); refine gL (some 37) rfl rfl Tryd.func82 rfl #[.slice A0 l0.length c0, .int .i64 x13_1, .slice Ao28 x12_1.length co28] rfl ?_; (with_reducible refine (incunableref06_twoRow.calls k1 _ _ l0 x13_1 _ _ x12_1 t527 t528 t529 _ ?side1 ?side2 ?side3 ?side4 A17.out).mono ?_); (case side1 => exact cU (Kd.C_below HR0.out HB.out)); (case side2 => exact HC0.out); (case side3 => exact cU (Kd.R_reads' HO_12.out).2.2); (case side4 => exact (Kd.R_reads' HO_12.out).2.1); rintro e w29 ⟨v530, rfl, ho0, hb⟩; refine ⟨_, rfl, ?_⟩; have n_ := aC (Kd.R_elder' (rU HO_12.out) (Kd.R_base ho0) hb) (aC (Kd.R_elder' (rU HO_524002.out) (Kd.R_base ho0) hb) (aC (Kd.R_lower (Kd.R_new' (Kd.R_new' ho0 (Kd.R_lt (rU HO_12.out))) (Kd.R_lt (rU HO_524002.out))) bz) (aC (blk_below (bU BK521.out) hb) (aC (blk_below (bU BK523.out) hb) (aE (bs hb)))))); clear HO_12 HO_524002 BK521 BK523 HB; obtain ⟨HO_12, HO_524002, HO531, BK521, BK523, HB⟩ := n_; (try clear hb); (try clear ho0); have hnb30 := NB521_523.out; have hnc30 := NB523_521.out; obtain ⟨hcz31_0, hcz31_1, hcz31_2, hfz31_0, hfz31_1, hfz31_2⟩ := cz3f BK521.out))
         refine bodyPost_ret (results_ctt rfl _ _ gb521 48 #[.int .i64 0, .int .i64 0, .slice none 0 0] (0, 0) _ rfl (by (with_reducible repeat (first | refine blk_drewN ?_ _ | refine blk_drew ?_ | refine blk_alloc ?_ _)); refine blk_put (cs := #[.int .i64 0, .int .i64 0, .slice none 0 0]) ?_ 2 _ rfl; (with_reducible repeat (first | refine blk_drewN ?_ _ | refine blk_drew ?_ | refine blk_alloc ?_ _)); refine blk_put (cs := #[.int .i64 0, .int .i64 x522001_1, .slice none 0 0]) ?_ 1 _ rfl; (with_reducible repeat (first | refine blk_drewN ?_ _ | refine blk_drew ?_ | refine blk_alloc ?_ _)); refine blk_put (cs := #[.int .i64 x522000_1, .int .i64 x522001_1, .slice none 0 0]) ?_ 0 _ rfl; (with_reducible repeat (first | refine blk_drewN ?_ _ | refine blk_drew ?_ | refine blk_alloc ?_ _)); exact BK521.out) Tryd.underlying48 rfl (by kernel_rfl)) rfl ?_
         exact ⟨_, re, by first | exact Kd.R_nil _ _ _ _ _ | exact Kd.N_nil _ _ _ _ _ | exact Kd.V_nil _ _ _ _ _ | exact Kd.Q_nil _ _ _ _ _ | exact Kd.S_nil _ _ _ _ _, bl⟩
       ·replace c16 := Bool.eq_false_iff.mpr c16
        subst c16
        have H1 : ((incunableref06_oneRow.f k1 l0 x13_1 a1).bind fun bt535 => (if bt535.2.2 = 0 then (if x524002_1.length + bt535.1.length < 140737488355328 then (incunableref06_Get.l0 k1 l0 a1 a2 false bt535.1 bt535.2.1 (wrap64 (x14_1 + 1)) a1 a2 (x524002_1 ++ bt535.1)) else (none)) else (some (0, 0, ([] : List Int), 0, bt535.2.2)))) = some (r1, r2, r3, r4, r5) := by rw [if_neg (show ¬ (false = true) by decide)] at H; exact H
        clear H
        have H := H1
        clear H1
        replace H := Option.bind_eq_some_iff.mp H
        obtain ⟨⟨t535, t536, t537⟩, A320, H⟩ := H
        replace H : (if t537 = 0 then (if x524002_1.length + t535.length < 140737488355328 then (incunableref06_Get.l0 k1 l0 a1 a2 false t535 t536 (wrap64 (x14_1 + 1)) a1 a2 (x524002_1 ++ t535)) else (none)) else (some (0, 0, ([] : List Int), 0, t537))) = some (r1, r2, r3, r4, r5) := H
        have A32 := Aside0.mk A320
        clear A320
        by_cases c33 : t537 = 0
        ·rw [if_pos c33] at H
         have c33b0 := beq_iff_eq.mpr c33
         have c33b1 := bne_eq_false_iff_eq.mpr c33
         clear c33
         by_cases c34 : x524002_1.length + t535.length < 140737488355328
         ·rw [if_pos c34] at H
          have LMc34 := Aside0.mk c34
          clear c34
          obtain ⟨y540, hy_⟩ : ∃ y_ : List Int, y_ = (x524002_1 ++ t535) := ⟨_, rfl⟩
          replace H : (incunableref06_Get.l0 k1 l0 a1 a2 false t535 t536 (wrap64 (x14_1 + 1)) a1 a2 y540) = some (r1, r2, r3, r4, r5) := rh
          have Ny540 := aE hy_
          clear hy_
          have H' := Aside0.mk H
          clear H
          go_wp2_with (first | ((with_reducible refine gf 83 rfl ?_); refine gL (some 45) rfl rfl Tryd.func83 rfl #[.slice A0 l0.length c0, .int .i64 x13_1, .int .i64 a1] rfl ?_; (with_reducible refine (incunableref06_oneRow.calls k1 _ _ l0 x13_1 a1 t535 t536 t537 _ ?side1 ?side2 A32.out).mono ?_); (case side1 => exact cU (Kd.C_below HR0.out HB.out)); (case side2 => exact HC0.out); rintro e w35 ⟨v538, rfl, ho0, hb⟩; refine ⟨_, rfl, ?_⟩; have n_ := aC (Kd.R_elder' (rU HO_12.out) (Kd.R_base ho0) hb) (aC (Kd.R_elder' (rU HO_524002.out) (Kd.R_base ho0) hb) (aC (Kd.R_lower (Kd.R_new' (Kd.R_new' ho0 (Kd.R_lt (rU HO_12.out))) (Kd.R_lt (rU HO_524002.out))) bz) (aC (blk_below (bU BK521.out) hb) (aC (blk_below (bU BK523.out) hb) (aE (bs hb)))))); clear HO_12 HO_524002 BK521 BK523 HB; obtain ⟨HO_12, HO_524002, HO539, BK521, BK523, HB⟩ := n_; (try clear hb); (try clear ho0); have hnb36 := NB523_521.out; have hnc36 := NB521_523.out; obtain ⟨hcz37_0, hcz37_1, hcz37_2, hfz37_0, hfz37_1, hfz37_2⟩ := cz3f BK523.out; obtain ⟨Ao39, co39, eo39⟩ := Kd.R_slice HO539.out; subst eo39) | ((with_reducible refine gate_builtin (b := .append) (xs := #[.tmp 54, .tmp 55]) rfl ?_); at_builtin; refine Kd.R_append_rows (Kd.int .u8) (w0 := w) w.heap.size rfl (.tmp 54) (.tmp 55) 22 5 (.int .u8 0) 1 rfl Tryd.underlying22 info5 rfl (by decide) (by omega) u524002 x524002_1 t535 _ _ _ (fun k_ => some k_ ≠ (u12 : Value).ownBlock ∧ some k_ ≠ (.slice Ao39 t535.length co39 : Value).ownBlock) (fun _ => False) rfl rfl ?aO ?aR (fun _ _ h => h) (fun _ h => h.elim) ?aF ?aB ?aS ?aL ?_; (case aR => repeat (first | exact (Kd.R_reads' HO539.out).2.2 | (with_reducible refine Kd.C_alloc ?_ _) | (with_reducible refine Kd.C_drewN ?_ _) | (with_reducible refine Kd.C_drew ?_))); (case aB => exact bl); (case aF => exact (fun k_ hk => ⟨Kd.fresh' (Kd.R_lt (rU HO_12.out)) k_ hk, Kd.fresh' (Kd.R_lt (rU HO539.out)) k_ hk⟩)); (case aO => exact (rU HO_524002.out)); (case aS => exact bz); (case aL => have := LMc34.out; omega); intro v541 w38 ho hb hg hat; rw [← Ny540.out] at ho; have n_ := aC (Kd.R_after (ok := (fun k_ => some k_ ≠ (.slice Ao39 t535.length co39 : Value).ownBlock)) (rU (Kd.R_mono HO_12.out (fun _ hk => ⟨hk.2, hk.1⟩))) hg hat) (aC (blk_grown (bU BK521.out) hg (Kd.R_ne HO_524002.out BK521.out (by decide))) (aC (blk_grown (bU BK523.out) hg (Kd.R_ne HO_524002.out BK523.out (by decide))) (aC (Kd.R_after (ok := (fun k_ => some k_ ≠ (u12 : Value).ownBlock)) (rU (Kd.R_mono HO539.out (fun _ hk => ⟨hk.1.2, hk.2⟩))) hg hat) (aC hb (aE ho))))); clear HO_12 BK521 BK523 HO539 HB HO_524002; obtain ⟨HO_12, BK521, BK523, HO539, HB, HO542⟩ := n_; clear ho hb hg hat; obtain ⟨Ao40, co40, eo40⟩ := Kd.R_slice HO542.out; subst eo40; obtain ⟨hcz41_0, hcz41_1, hcz41_2, hfz41_0, hfz41_1, hfz41_2⟩ := cz3f BK523.out))
          go_roundg k1
          case measure => have := HK1.out; omega
          case rel => exact ⟨(t535), (t536), (wrap64 (x14_1 + 1)), (x522000_1), (x522001_1), (y540), (.slice Ao40 y540.length co40), rq, rq, H', ⟨by have := HK1.out; omega⟩, ⟨rU (Kd.R_mono (Kd.R_far (p := ⟨gb523, 2, none⟩) (Kd.R_types HO539.out BK523.out (by decide)) (fun _ hk => hk.2) (.slice Ao40 y540.length co40)) (fun _ hk => hk.1.2))⟩, ⟨rU (Kd.R_mono (Kd.R_far (p := ⟨gb523, 2, none⟩) (Kd.R_types HO542.out BK523.out (by decide)) (fun _ hk => hk.2) (.slice Ao40 y540.length co40)) (fun _ hk => hk.1.2))⟩, ⟨by (with_reducible repeat (first | refine blk_drewN ?_ _ | refine blk_drew ?_ | refine blk_alloc ?_ _)); refine blk_far ?_ NB521_523.out _; (with_reducible repeat (first | refine blk_drewN ?_ _ | refine blk_drew ?_ | refine blk_alloc ?_ _)); exact BK521.out⟩, ⟨by (with_reducible repeat (first | refine blk_drewN ?_ _ | refine blk_drew ?_ | refine blk_alloc ?_ _)); refine blk_put (cs := #[.int .i64 a1, .int .i64 a2, u524002]) ?_ 2 _ rfl; (with_reducible repeat (first | refine blk_drewN ?_ _ | refine blk_drew ?_ | refine blk_alloc ?_ _)); exact BK523.out⟩, ⟨bl⟩⟩
         ·rw [if_neg c34] at H
          exact absurd H (by simp)
        ·rw [if_neg c33] at H
         have c33b0 := beq_eq_false_iff_ne.mpr c33
         have c33b1 := bne_iff_ne.mpr c33
         simp only [Option.some.injEq, Prod.mk.injEq] at H
         obtain ⟨rfl, rfl, rfl, rfl, rfl⟩ := H
         go_wp2_with (first | ((with_reducible refine gf 83 rfl ?_); refine gL (some 45) rfl rfl Tryd.func83 rfl #[.slice A0 l0.length c0, .int .i64 x13_1, .int .i64 a1] rfl ?_; (with_reducible refine (incunableref06_oneRow.calls k1 _ _ l0 x13_1 a1 t535 t536 t537 _ ?side1 ?side2 A32.out).mono ?_); (case side1 => exact cU (Kd.C_below HR0.out HB.out)); (case side2 => exact HC0.out); rintro e w42 ⟨v538, rfl, ho0, hb⟩; refine ⟨_, rfl, ?_⟩; have n_ := aC (Kd.R_elder' (rU HO_12.out) (Kd.R_base ho0) hb) (aC (Kd.R_elder' (rU HO_524002.out) (Kd.R_base ho0) hb) (aC (Kd.R_lower (Kd.R_new' (Kd.R_new' ho0 (Kd.R_lt (rU HO_12.out))) (Kd.R_lt (rU HO_524002.out))) bz) (aC (blk_below (bU BK521.out) hb) (aC (blk_below (bU BK523.out) hb) (aE (bs hb)))))); clear HO_12 HO_524002 BK521 BK523 HB; obtain ⟨HO_12, HO_524002, HO539, BK521, BK523, HB⟩ := n_; (try clear hb); (try clear ho0); have hnb43 := NB521_523.out; have hnc43 := NB523_521.out; obtain ⟨hcz44_0, hcz44_1, hcz44_2, hfz44_0, hfz44_1, hfz44_2⟩ := cz3f BK521.out))
         refine bodyPost_ret (results_ctt rfl _ _ gb521 48 #[.int .i64 0, .int .i64 0, .slice none 0 0] (0, 0) _ rfl (by (with_reducible repeat (first | refine blk_drewN ?_ _ | refine blk_drew ?_ | refine blk_alloc ?_ _)); refine blk_put (cs := #[.int .i64 0, .int .i64 0, .slice none 0 0]) ?_ 2 _ rfl; (with_reducible repeat (first | refine blk_drewN ?_ _ | refine blk_drew ?_ | refine blk_alloc ?_ _)); refine blk_put (cs := #[.int .i64 0, .int .i64 x522001_1, .slice none 0 0]) ?_ 1 _ rfl; (with_reducible repeat (first | refine blk_drewN ?_ _ | refine blk_drew ?_ | refine blk_alloc ?_ _)); refine blk_put (cs := #[.int .i64 x522000_1, .int .i64 x522001_1, .slice none 0 0]) ?_ 0 _ rfl; (with_reducible repeat (first | refine blk_drewN ?_ _ | refine blk_drew ?_ | refine blk_alloc ?_ _)); exact BK521.out) Tryd.underlying48 rfl (by kernel_rfl)) rfl ?_
         exact ⟨_, re, by first | exact Kd.R_nil _ _ _ _ _ | exact Kd.N_nil _ _ _ _ _ | exact Kd.V_nil _ _ _ _ _ | exact Kd.Q_nil _ _ _ _ _ | exact Kd.S_nil _ _ _ _ _, bl⟩
      ·rw [if_neg c15] at H
       have c15b0 := decide_eq_false c15
       clear c15
       simp only [Option.some.injEq, Prod.mk.injEq] at H
       obtain ⟨rfl, rfl, rfl, rfl, rfl⟩ := H
       have hnb45 := NB523_521.out
       have hnc45 := NB521_523.out
       obtain ⟨hcz46_0, hcz46_1, hcz46_2, hfz46_0, hfz46_1, hfz46_2⟩ := cz3f BK523.out
       obtain ⟨hcz47_0, hcz47_1, hcz47_2, hfz47_0, hfz47_1, hfz47_2⟩ := cz3f BK521.out
       obtain ⟨Ao48, co48, eo48⟩ := Kd.R_slice HO_524002.out
       subst eo48
       go_wp2
       refine bodyPost_ret (results_ctt rfl _ _ gb521 48 #[.int .i64 a1, .int .i64 a2, .slice Ao48 x524002_1.length co48] (0, 0) _ rfl (by (with_reducible repeat (first | refine blk_drewN ?_ _ | refine blk_drew ?_ | refine blk_alloc ?_ _)); refine blk_put (cs := #[.int .i64 a1, .int .i64 a2, .slice none 0 0]) ?_ 2 _ rfl; (with_reducible repeat (first | refine blk_drewN ?_ _ | refine blk_drew ?_ | refine blk_alloc ?_ _)); refine blk_put (cs := #[.int .i64 a1, .int .i64 x522001_1, .slice none 0 0]) ?_ 1 _ rfl; (with_reducible repeat (first | refine blk_drewN ?_ _ | refine blk_drew ?_ | refine blk_alloc ?_ _)); refine blk_put (cs := #[.int .i64 x522000_1, .int .i64 x522001_1, .slice none 0 0]) ?_ 0 _ rfl; (with_reducible repeat (first | refine blk_drewN ?_ _ | refine blk_drew ?_ | refine blk_alloc ?_ _)); exact BK521.out) Tryd.underlying48 rfl (by kernel_rfl)) rfl ?_
       exact ⟨_, re, rU (Kd.R_mono (Kd.R_far (p := ⟨gb521, 2, none⟩) (Kd.R_far (p := ⟨gb521, 1, none⟩) (Kd.R_far (p := ⟨gb521, 0, none⟩) (Kd.R_types HO_524002.out BK521.out (by decide)) (fun _ hk => hk.2) (.int .i64 a1)) (fun _ hk => hk.2) (.int .i64 a2)) (fun _ hk => hk.2) (.slice Ao48 x524002_1.length co48)) (fun _ hk => trivial)), bl⟩
   ·rw [if_neg c8] at H
    exact absurd H (by simp)
  ·rw [if_neg c7] at H
   exact absurd H (by simp)
 ·replace c6 := Bool.eq_false_iff.mpr c6
  subst c6
  have H1 : (some (0, 0, ([] : List Int), 0, 2)) = some (r1, r2, r3, r4, r5) := by rw [if_neg (show ¬ (false = true) by decide)] at H; exact H
  clear H
  have H := H1
  clear H1
  simp only [Option.some.injEq, Prod.mk.injEq] at H
  obtain ⟨rfl, rfl, rfl, rfl, rfl⟩ := H
  go_enter Tryd.func55, Tryd.ntmps55
  go_wp2_with (first | ((with_reducible refine gd 8 rfl ?_); refine bx 8 #[.int .i64 0, .int .i64 0, .slice none 0 0] 48 rfl rfl ?_; intro gb521 hg w49 hbox hb; have n_ := aC (bs hb) (aC hbox (aC (gz hg) (aE (gz hg)))); clear HB; obtain ⟨HB, BK521, GW521, GE521⟩ := n_; clear hb hbox hg) | ((with_reducible refine gf 51 rfl ?_); refine gL (some 19) rfl rfl Tryd.func51 rfl #[.int .i64 a1, .int .i64 a2] rfl ?_; (with_reducible refine (incunableref06_IsSize.calls a1 a2 false _ A5.out).mono ?_); rintro e w' ⟨rfl, ⟨nd, rfl⟩⟩; refine ⟨_, rfl, ?_⟩; (try (rw [drewN_self w49]; generalize hq_ : World.drewN w49 _ = w49; have n0_ : Aside0 (w49.heap[gb521]? = some (.cells #[.int .i64 0, .int .i64 0, .slice none 0 0] 48 (0, 0))) := ⟨by rw [← hq_]; exact (bU BK521.out)⟩; have n1_ : Aside0 (Below w.heap.size w w49) := ⟨by rw [← hq_]; exact bl⟩; clear BK521 HB hq_; have BK521 := n0_; have HB := n1_; clear n0_ n1_)); obtain ⟨hcz50_0, hcz50_1, hcz50_2, hfz50_0, hfz50_1, hfz50_2⟩ := cz3f BK521.out))
  refine bodyPost_ret (results_ctt rfl _ _ gb521 48 #[.int .i64 0, .int .i64 0, .slice none 0 0] (0, 0) _ rfl (by (with_reducible repeat (first | refine blk_drewN ?_ _ | refine blk_drew ?_ | refine blk_alloc ?_ _)); refine blk_put (cs := #[.int .i64 0, .int .i64 0, .slice none 0 0]) ?_ 2 _ rfl; (with_reducible repeat (first | refine blk_drewN ?_ _ | refine blk_drew ?_ | refine blk_alloc ?_ _)); refine blk_put (cs := #[.int .i64 0, .int .i64 0, .slice none 0 0]) ?_ 1 _ rfl; (with_reducible repeat (first | refine blk_drewN ?_ _ | refine blk_drew ?_ | refine blk_alloc ?_ _)); refine blk_put (cs := #[.int .i64 0, .int .i64 0, .slice none 0 0]) ?_ 0 _ rfl; (with_reducible repeat (first | refine blk_drewN ?_ _ | refine blk_drew ?_ | refine blk_alloc ?_ _)); exact BK521.out) Tryd.underlying48 rfl (by kernel_rfl)) rfl ?_
  exact ⟨_, re, by first | exact Kd.R_nil _ _ _ _ _ | exact Kd.N_nil _ _ _ _ _ | exact Kd.V_nil _ _ _ _ _ | exact Kd.Q_nil _ _ _ _ _ | exact Kd.S_nil _ _ _ _ _, bl⟩
def incunableref06_GetTwo.f (k : Nat) (l0 : List Int) (a1 : Int) (a2 : Int) : Option (Int × Int × List Int × Int × Int) := (incunableref06_Get.f k l0 a1 a2 true).bind fun bt544 => (some (bt544.1, bt544.2.1, bt544.2.2.1, bt544.2.2.2.1, bt544.2.2.2.2))
theorem incunableref06_GetTwo.mono : ∀ a0 a1 a2 k, LeO (incunableref06_GetTwo.f k a0 a1 a2) (incunableref06_GetTwo.f (k + 1) a0 a1 a2) := by
 intro a0 a1 a2 k
 unfold incunableref06_GetTwo.f
 repeat' first
   | (with_reducible exact incunableref06_Get.mono _ _ _ _ _)
   | (with_reducible first | exact LeO.refl _ | exact LeO.none _ | refine LeO.ite ?_ ?_ | refine LeO.bind ?_ (fun _ => ?_))
   | exact incunableref06_Get.mono _ _ _ _ _
   | exact LeO.none _ | refine LeO.ite ?_ ?_ | refine LeO.bind ?_ (fun _ => ?_)
set_option maxHeartbeats 8000000 in
set_option maxRecDepth 100000 in
theorem incunableref06_GetTwo.calls (k : Nat) (A0 : Option Addr) (c0 : Nat) (l0 : List Int) (a1 : Int) (a2 : Int) (r1 : Int) (r2 : Int) (r3 : List Int) (r4 : Int) (r5 : Int) (w : World) (hr0 : Kd.C (Kd.int .u8) w A0 l0.length l0) (hc0 : l0.length ≤ c0) (h : incunableref06_GetTwo.f k l0 a1 a2 = some (r1, r2, r3, r4, r5)) :
  Calls Tryd.prog 34 #[.slice A0 l0.length c0, .int .i64 a1, .int .i64 a2] w fun e w' => ∃ v2_ : Value, e = .returned (.tuple #[.agg #[.int .i64 r1, .int .i64 r2, v2_], .int .i64 r4, .int .i64 r5]) ∧ Kd.R (Kd.int .u8) 5 w' w.heap.size (fun _ => True) v2_ r3 ∧ Below w.heap.size w w' := by
 have hu48 := Tryd.underlying48
 have HR0 := Aside0.mk hr0
 have HC0 := Aside0.mk hc0
 clear hr0 hc0
 have HB := Aside0.mk (Below.refl w.heap.size w)
 have H : ((incunableref06_Get.f k l0 a1 a2 true).bind fun bt544 => (some (bt544.1, bt544.2.1, bt544.2.2.1, bt544.2.2.2.1, bt544.2.2.2.2))) = some (r1, r2, r3, r4, r5) := h
 clear h
 replace H := Option.bind_eq_some_iff.mp H
 obtain ⟨⟨t544, t545, t546, t549, t550⟩, A40, H⟩ := H
 replace H : (some (t544, t545, t546, t549, t550)) = some (r1, r2, r3, r4, r5) := H
 have A4 := Aside0.mk A40
 clear A40
 simp only [Option.some.injEq, Prod.mk.injEq] at H
 obtain ⟨rfl, rfl, rfl, rfl, rfl⟩ := H
 go_enter Tryd.func34, Tryd.ntmps34
 go_wp2_with (first | ((with_reducible refine gd 6 rfl ?_); refine bx 6 #[.int .i64 0, .int .i64 0, .slice none 0 0] 48 rfl rfl ?_; intro gb543 hg w5 hbox hb; have n_ := aC (bs hb) (aC hbox (aC (gz hg) (aE (gz hg)))); clear HB; obtain ⟨HB, BK543, GW543, GE543⟩ := n_; clear hb hbox hg) | ((with_reducible refine gf 55 rfl ?_); refine gL (some 12) rfl rfl Tryd.func55 rfl #[.slice A0 l0.length c0, .int .i64 a1, .int .i64 a2, .bool true] rfl ?_; (with_reducible refine (incunableref06_Get.calls k _ _ l0 a1 a2 true t544 t545 t546 t549 t550 _ ?side1 ?side2 A4.out).mono ?_); (case side1 => exact cU (Kd.C_below HR0.out HB.out)); (case side2 => exact HC0.out); rintro e w6 ⟨v547, rfl, ho0, hb⟩; refine ⟨_, rfl, ?_⟩; have n_ := aC (Kd.R_lower ho0 bz) (aC (blk_below (bU BK543.out) hb) (aE (bs hb))); clear BK543 HB; obtain ⟨HO548, BK543, HB⟩ := n_; (try clear hb); (try clear ho0); obtain ⟨hcz7_0, hcz7_1, hcz7_2, hfz7_0, hfz7_1, hfz7_2⟩ := cz3f BK543.out; obtain ⟨Ao8, co8, eo8⟩ := Kd.R_slice HO548.out; subst eo8))
 refine bodyPost_ret (results_ctt rfl _ _ gb543 48 #[.int .i64 t544, .int .i64 t545, .slice Ao8 t546.length co8] (0, 0) _ rfl (by (with_reducible repeat (first | refine blk_drewN ?_ _ | refine blk_drew ?_ | refine blk_alloc ?_ _)); refine blk_put (cs := #[.int .i64 t544, .int .i64 t545, .slice none 0 0]) ?_ 2 _ rfl; (with_reducible repeat (first | refine blk_drewN ?_ _ | refine blk_drew ?_ | refine blk_alloc ?_ _)); refine blk_put (cs := #[.int .i64 t544, .int .i64 0, .slice none 0 0]) ?_ 1 _ rfl; (with_reducible repeat (first | refine blk_drewN ?_ _ | refine blk_drew ?_ | refine blk_alloc ?_ _)); refine blk_put (cs := #[.int .i64 0, .int .i64 0, .slice none 0 0]) ?_ 0 _ rfl; (with_reducible repeat (first | refine blk_drewN ?_ _ | refine blk_drew ?_ | refine blk_alloc ?_ _)); exact BK543.out) Tryd.underlying48 rfl (by kernel_rfl)) rfl ?_
 exact ⟨_, re, rU (Kd.R_mono (Kd.R_far (p := ⟨gb543, 2, none⟩) (Kd.R_far (p := ⟨gb543, 1, none⟩) (Kd.R_far (p := ⟨gb543, 0, none⟩) (Kd.R_types HO548.out BK543.out (by decide)) (fun _ hk => hk.2) (.int .i64 t544)) (fun _ hk => hk.2) (.int .i64 t545)) (fun _ hk => hk.2) (.slice Ao8 t546.length co8)) (fun _ hk => trivial)), bl⟩
def incunablelaw06_RunsGetTwo.f (k : Nat) (l0 : List Int) (a1 : Int) (a2 : Int) : Option (Bool) := if (l0.length : Int) > 100000 then ((incunablelaw06_Awake.f k).bind fun t551 => (some t551)) else ((runs_GetTwo.f k l0 a1 a2).bind fun bt552 => ((incunableref06_GetTwo.f k l0 a1 a2).bind fun bt560 => (if bt552.2.2.2.2 = bt560.2.2.2.2 then (if bt552.2.2.2.1 = bt560.2.2.2.1 then ((incunableref06_SameBitmap.f k bt552.1 bt552.2.1 bt552.2.2.1 bt560.1 bt560.2.1 bt560.2.2.1).bind fun t568 => (if t568 = true then ((incunablelaw06_Awake.f k).bind fun t569 => (some t569)) else (some false))) else (some false)) else (some false))))
theorem incunablelaw06_RunsGetTwo.mono : ∀ a0 a1 a2 k, LeO (incunablelaw06_RunsGetTwo.f k a0 a1 a2) (incunablelaw06_RunsGetTwo.f (k + 1) a0 a1 a2) := by
 intro a0 a1 a2 k
 unfold incunablelaw06_RunsGetTwo.f
 repeat' first
   | (with_reducible exact incunablelaw06_Awake.mono _)
   | (with_reducible exact incunableref06_GetTwo.mono _ _ _ _)
   | (with_reducible exact incunableref06_SameBitmap.mono _ _ _ _ _ _ _)
   | (with_reducible exact runs_GetTwo.mono _ _ _ _)
   | (with_reducible first | exact LeO.refl _ | exact LeO.none _ | refine LeO.ite ?_ ?_ | refine LeO.bind ?_ (fun _ => ?_))
   | exact incunablelaw06_Awake.mono _
   | exact incunableref06_GetTwo.mono _ _ _ _
   | exact incunableref06_SameBitmap.mono _ _ _ _ _ _ _
   | exact runs_GetTwo.mono _ _ _ _
   | exact LeO.none _ | refine LeO.ite ?_ ?_ | refine LeO.bind ?_ (fun _ => ?_)
set_option maxHeartbeats 8000000 in
set_option maxRecDepth 100000 in
theorem incunablelaw06_RunsGetTwo.calls (k : Nat) (A0 : Option Addr) (c0 : Nat) (l0 : List Int) (a1 : Int) (a2 : Int) (r : Bool) (w : World) (hT0 : TIs w) (hr0 : Kd.C (Kd.int .u8) w A0 l0.length l0) (hc0 : l0.length ≤ c0) (h : incunablelaw06_RunsGetTwo.f k l0 a1 a2 = some r) (hr_ : r = true) :
  Calls Tryd.prog 9 #[.slice A0 l0.length c0, .int .i64 a1, .int .i64 a2] w fun e w' => e = .returned (.bool r) ∧ Below w.heap.size w w' := by
 have HTI := Aside0.mk hT0
 clear hT0
 have HR_ := Aside0.mk hr_
 clear hr_
 have hu48 := Tryd.underlying48
 have HR0 := Aside0.mk hr0
 have HC0 := Aside0.mk hc0
 clear hr0 hc0
 have HB := Aside0.mk (Below.refl w.heap.size w)
 have H : (if (l0.length : Int) > 100000 then ((incunablelaw06_Awake.f k).bind fun t551 => (some t551)) else ((runs_GetTwo.f k l0 a1 a2).bind fun bt552 => ((incunableref06_GetTwo.f k l0 a1 a2).bind fun bt560 => (if bt552.2.2.2.2 = bt560.2.2.2.2 then (if bt552.2.2.2.1 = bt560.2.2.2.1 then ((incunableref06_SameBitmap.f k bt552.1 bt552.2.1 bt552.2.2.1 bt560.1 bt560.2.1 bt560.2.2.1).bind fun t568 => (if t568 = true then ((incunablelaw06_Awake.f k).bind fun t569 => (some t569)) else (some false))) else (some false)) else (some false))))) = some r := h
 clear h
 by_cases c4 : (l0.length : Int) > 100000
 ·rw [if_pos c4] at H
  have c4b0 := decide_eq_true c4
  have c4b1 : decide (100000 < l0.length) = true := decide_eq_true (by omega)
  clear c4
  replace H := Option.bind_eq_some_iff.mp H
  obtain ⟨t551, A50, H⟩ := H
  replace H : (some t551) = some r := H
  have A5 := Aside0.mk A50
  clear A50
  obtain rfl := Option.some.inj H
  go_enter Tryd.func9, Tryd.ntmps9
  go_wp2_with (first | ((with_reducible refine gf 13 rfl ?_); refine gL (some 16) rfl rfl Tryd.func13 rfl #[] rfl ?_; (with_reducible refine (incunablelaw06_Awake.calls k  t551 _ (TIs.on HTI) A5.out).mono ?_); rintro e w6 ⟨rfl, hb⟩; refine ⟨_, rfl, ?_⟩; have n_ := aE (bs hb); clear HB; have HB := n_; clear n_; (try clear hb)))
  go_ret
  exact ⟨re, bl⟩
 ·rw [if_neg c4] at H
  have c4b0 := decide_eq_false c4
  have c4b1 : decide (100000 < l0.length) = false := decide_eq_false (by omega)
  clear c4
  replace H := Option.bind_eq_some_iff.mp H
  obtain ⟨⟨t552, t553, t554, t557, t558⟩, A70, H⟩ := H
  replace H : ((incunableref06_GetTwo.f k l0 a1 a2).bind fun bt560 => (if t558 = bt560.2.2.2.2 then (if t557 = bt560.2.2.2.1 then ((incunableref06_SameBitmap.f k t552 t553 t554 bt560.1 bt560.2.1 bt560.2.2.1).bind fun t568 => (if t568 = true then ((incunablelaw06_Awake.f k).bind fun t569 => (some t569)) else (some false))) else (some false)) else (some false))) = some r := H
  have A7 := Aside0.mk A70
  clear A70
  replace H := Option.bind_eq_some_iff.mp H
  obtain ⟨⟨t560, t561, t562, t565, t566⟩, A80, H⟩ := H
  replace H : (if t558 = t566 then (if t557 = t565 then ((incunableref06_SameBitmap.f k t552 t553 t554 t560 t561 t562).bind fun t568 => (if t568 = true then ((incunablelaw06_Awake.f k).bind fun t569 => (some t569)) else (some false))) else (some false)) else (some false)) = some r := H
  have A8 := Aside0.mk A80
  clear A80
  by_cases c9 : t558 = t566
  ·rw [if_pos c9] at H
   have c9b0 := beq_iff_eq.mpr c9
   have c9b1 := bne_eq_false_iff_eq.mpr c9
   clear c9
   by_cases c10 : t557 = t565
   ·rw [if_pos c10] at H
    have c10b0 := beq_iff_eq.mpr c10
    have c10b1 := bne_eq_false_iff_eq.mpr c10
    clear c10
    replace H := Option.bind_eq_some_iff.mp H
    obtain ⟨t568, A110, H⟩ := H
    replace H : (if t568 = true then ((incunablelaw06_Awake.f k).bind fun t569 => (some t569)) else (some false)) = some r := H
    have A11 := Aside0.mk A110
    clear A110
    by_cases c12 : t568 = true
    ·subst c12
     have H1 : ((incunablelaw06_Awake.f k).bind fun t569 => (some t569)) = some r := by rw [if_pos rfl] at H; exact H
     clear H
     have H := H1
     clear H1
     replace H := Option.bind_eq_some_iff.mp H
     obtain ⟨t569, A130, H⟩ := H
     replace H : (some t569) = some r := H
     have A13 := Aside0.mk A130
     clear A130
     obtain rfl := Option.some.inj H
     go_enter Tryd.func9, Tryd.ntmps9
     go_wp2_with (first | ((with_reducible refine gf 33 rfl ?_); refine gL (some 21) rfl rfl Tryd.func33 rfl #[.slice A0 l0.length c0, .int .i64 a1, .int .i64 a2] rfl ?_; (with_reducible refine (runs_GetTwo.calls k _ _ l0 a1 a2 t552 t553 t554 t557 t558 _ ?side1 ?side2 A7.out).mono ?_); (case side1 => exact cU HR0.out); (case side2 => exact HC0.out); rintro e w14 ⟨v555, rfl, ho0, hb⟩; refine ⟨_, rfl, ?_⟩; have n_ := aC (Kd.R_lower ho0 bz) (aE (bs hb)); clear HB; obtain ⟨HO556, HB⟩ := n_; (try clear hb); (try clear ho0)) | ((with_reducible refine gd 7 rfl ?_); refine bx 7 #[.int .i64 0, .int .i64 0, .slice none 0 0] 48 rfl rfl ?_; intro gb559 hg w15 hbox hb; have n_ := aC (Kd.R_below (rU HO556.out) hb) (aC (bs hb) (aC hbox (aC (gz hg) (aE (gz hg))))); clear HO556 HB; obtain ⟨HO556, HB, BK559, GW559, GE559⟩ := n_; clear hb hbox hg; obtain ⟨hcz16_0, hcz16_1, hcz16_2, hfz16_0, hfz16_1, hfz16_2⟩ := cz3f BK559.out; obtain ⟨Ao17, co17, eo17⟩ := Kd.R_slice HO556.out; subst eo17) | ((with_reducible refine gf 34 rfl ?_); refine gL (some 29) rfl rfl Tryd.func34 rfl #[.slice A0 l0.length c0, .int .i64 a1, .int .i64 a2] rfl ?_; (with_reducible refine (incunableref06_GetTwo.calls k _ _ l0 a1 a2 t560 t561 t562 t565 t566 _ ?side1 ?side2 A8.out).mono ?_); (case side1 => exact Kd.C_below HR0.out bl); (case side2 => exact HC0.out); rintro e w18 ⟨v563, rfl, ho0, hb⟩; refine ⟨_, rfl, ?_⟩; have n_ := aC (Kd.R_elder' (rU (Kd.R_mono (Kd.R_far (p := ⟨gb559, 2, none⟩) (Kd.R_far (p := ⟨gb559, 1, none⟩) (Kd.R_far (p := ⟨gb559, 0, none⟩) (Kd.R_types HO556.out BK559.out (by decide)) (fun _ hk => hk.2) (.int .i64 t552)) (fun _ hk => hk.2) (.int .i64 t553)) (fun _ hk => hk.2) (.slice Ao17 t554.length co17)) (fun _ h_ => h_.1))) (Kd.R_base ho0) hb) (aC (Kd.R_lower (Kd.R_new' ho0 (Kd.R_lt (rU (Kd.R_mono (Kd.R_far (p := ⟨gb559, 2, none⟩) (Kd.R_far (p := ⟨gb559, 1, none⟩) (Kd.R_far (p := ⟨gb559, 0, none⟩) (Kd.R_types HO556.out BK559.out (by decide)) (fun _ hk => hk.2) (.int .i64 t552)) (fun _ hk => hk.2) (.int .i64 t553)) (fun _ hk => hk.2) (.slice Ao17 t554.length co17)) (fun _ h_ => h_.1))))) bz) (aC (blk_below (g := gb559) (o := .cells #[.int .i64 t552, .int .i64 t553, .slice Ao17 t554.length co17] 48 (0, 0)) (by (with_reducible repeat (first | refine blk_drewN ?_ _ | refine blk_drew ?_ | refine blk_alloc ?_ _)); refine blk_put (cs := #[.int .i64 t552, .int .i64 t553, .slice none 0 0]) ?_ 2 _ rfl; (with_reducible repeat (first | refine blk_drewN ?_ _ | refine blk_drew ?_ | refine blk_alloc ?_ _)); refine blk_put (cs := #[.int .i64 t552, .int .i64 0, .slice none 0 0]) ?_ 1 _ rfl; (with_reducible repeat (first | refine blk_drewN ?_ _ | refine blk_drew ?_ | refine blk_alloc ?_ _)); refine blk_put (cs := #[.int .i64 0, .int .i64 0, .slice none 0 0]) ?_ 0 _ rfl; (with_reducible repeat (first | refine blk_drewN ?_ _ | refine blk_drew ?_ | refine blk_alloc ?_ _)); exact BK559.out) hb) (aE (bs hb)))); clear HO556 BK559 HB; obtain ⟨HO556, HO564, BK559, HB⟩ := n_; (try clear hb); (try clear ho0)) | ((with_reducible refine gd 10 rfl ?_); refine bx 10 #[.int .i64 0, .int .i64 0, .slice none 0 0] 48 rfl rfl ?_; intro gb567 hg w19 hbox hb; have n_ := aC (Kd.R_below (rU HO556.out) hb) (aC (Kd.R_below (rU HO564.out) hb) (aC (blk_below (bU BK559.out) hb) (aC (bs hb) (aC hbox (aC (gz hg) (aC (gz hg) (aC (gn hg (bU BK559.out)) (aE (gm hg (bU BK559.out)))))))))); clear HO556 HO564 BK559 HB; obtain ⟨HO556, HO564, BK559, HB, BK567, GW567, GE567, NB559_567, NB567_559⟩ := n_; clear hb hbox hg; have hnb20 := NB567_559.out; have hnc20 := NB559_567.out; obtain ⟨hcz21_0, hcz21_1, hcz21_2, hfz21_0, hfz21_1, hfz21_2⟩ := cz3f BK567.out; obtain ⟨Ao22, co22, eo22⟩ := Kd.R_slice HO564.out; subst eo22; obtain ⟨hcz23_0, hcz23_1, hcz23_2, hfz23_0, hfz23_1, hfz23_2⟩ := cz3f BK559.out) | (go_at_call 32; (with_reducible refine (incunableref06_SameBitmap.calls k t552 t553 _ _ t554 t560 t561 _ _ t562 true _ ?side1 ?side2 ?side3 ?side4 A11.out).mono ?_); (case side1 => refine (Kd.R_reads' (e := 5) (base := w.heap.size) (ok := fun k_ => (True ∧ some k_ ≠ (.slice Ao22 t562.length co22 : Value).ownBlock)) (n := t554.length) (c := co17) ?_).2.2; exact (rU (Kd.R_mono (Kd.R_far (p := ⟨gb567, 2, none⟩) (Kd.R_far (p := ⟨gb567, 1, none⟩) (Kd.R_far (p := ⟨gb567, 0, none⟩) (Kd.R_types HO556.out BK567.out (by decide)) (fun _ hk => hk.2) (.int .i64 t560)) (fun _ hk => hk.2) (.int .i64 t561)) (fun _ hk => hk.2) (.slice Ao22 t562.length co22)) (fun _ h_ => h_.1)))); (case side2 => exact (Kd.R_reads' HO556.out).2.1); (case side3 => refine (Kd.R_reads' (e := 5) (base := w.heap.size) (ok := fun k_ => (True ∧ some k_ ≠ (.slice Ao17 t554.length co17 : Value).ownBlock)) (n := t562.length) (c := co22) ?_).2.2; exact (rU (Kd.R_mono (Kd.R_far (p := ⟨gb567, 2, none⟩) (Kd.R_far (p := ⟨gb567, 1, none⟩) (Kd.R_far (p := ⟨gb567, 0, none⟩) (Kd.R_types HO564.out BK567.out (by decide)) (fun _ hk => hk.2) (.int .i64 t560)) (fun _ hk => hk.2) (.int .i64 t561)) (fun _ hk => hk.2) (.slice Ao22 t562.length co22)) (fun _ h_ => h_.1)))); (case side4 => exact (Kd.R_reads' HO564.out).2.1); rintro e w24 ⟨rfl, hb⟩; have n_ := aC (Kd.R_below (rU (Kd.R_mono (Kd.R_far (p := ⟨gb567, 2, none⟩) (Kd.R_far (p := ⟨gb567, 1, none⟩) (Kd.R_far (p := ⟨gb567, 0, none⟩) (Kd.R_types HO556.out BK567.out (by decide)) (fun _ hk => hk.2) (.int .i64 t560)) (fun _ hk => hk.2) (.int .i64 t561)) (fun _ hk => hk.2) (.slice Ao22 t562.length co22)) (fun _ h_ => h_.1))) hb) (aC (Kd.R_below (rU (Kd.R_mono (Kd.R_far (p := ⟨gb567, 2, none⟩) (Kd.R_far (p := ⟨gb567, 1, none⟩) (Kd.R_far (p := ⟨gb567, 0, none⟩) (Kd.R_types HO564.out BK567.out (by decide)) (fun _ hk => hk.2) (.int .i64 t560)) (fun _ hk => hk.2) (.int .i64 t561)) (fun _ hk => hk.2) (.slice Ao22 t562.length co22)) (fun _ h_ => h_.1))) hb) (aC (blk_below (g := gb559) (o := .cells #[.int .i64 t552, .int .i64 t553, .slice Ao17 t554.length co17] 48 (0, 0)) (by (with_reducible repeat (first | refine blk_drewN ?_ _ | refine blk_drew ?_ | refine blk_alloc ?_ _)); refine blk_far ?_ NB559_567.out _; (with_reducible repeat (first | refine blk_drewN ?_ _ | refine blk_drew ?_ | refine blk_alloc ?_ _)); refine blk_far ?_ NB559_567.out _; (with_reducible repeat (first | refine blk_drewN ?_ _ | refine blk_drew ?_ | refine blk_alloc ?_ _)); refine blk_far ?_ NB559_567.out _; (with_reducible repeat (first | refine blk_drewN ?_ _ | refine blk_drew ?_ | refine blk_alloc ?_ _)); exact BK559.out) hb) (aC (blk_below (g := gb567) (o := .cells #[.int .i64 t560, .int .i64 t561, .slice Ao22 t562.length co22] 48 (0, 0)) (by (with_reducible repeat (first | refine blk_drewN ?_ _ | refine blk_drew ?_ | refine blk_alloc ?_ _)); refine blk_put (cs := #[.int .i64 t560, .int .i64 t561, .slice none 0 0]) ?_ 2 _ rfl; (with_reducible repeat (first | refine blk_drewN ?_ _ | refine blk_drew ?_ | refine blk_alloc ?_ _)); refine blk_put (cs := #[.int .i64 t560, .int .i64 0, .slice none 0 0]) ?_ 1 _ rfl; (with_reducible repeat (first | refine blk_drewN ?_ _ | refine blk_drew ?_ | refine blk_alloc ?_ _)); refine blk_put (cs := #[.int .i64 0, .int .i64 0, .slice none 0 0]) ?_ 0 _ rfl; (with_reducible repeat (first | refine blk_drewN ?_ _ | refine blk_drew ?_ | refine blk_alloc ?_ _)); exact BK567.out) hb) (aE (bs hb))))); clear HO556 HO564 BK559 BK567 HB; obtain ⟨HO556, HO564, BK559, BK567, HB⟩ := n_; (try clear hb)) | (go_at_call 13; (with_reducible refine (incunablelaw06_Awake.calls k  t569 _ (TIs.on HTI) A13.out).mono ?_); rintro e w25 ⟨rfl, hb⟩; have n_ := aC (Kd.R_below (rU HO556.out) hb) (aC (Kd.R_below (rU HO564.out) hb) (aC (blk_below (bU BK559.out) hb) (aC (blk_below (bU BK567.out) hb) (aE (bs hb))))); clear HO556 HO564 BK559 BK567 HB; obtain ⟨HO556, HO564, BK559, BK567, HB⟩ := n_; (try clear hb)))
     go_ret
     exact ⟨re, bl⟩
    ·replace c12 := Bool.eq_false_iff.mpr c12
     subst c12
     have H1 : (some false) = some r := by rw [if_neg (show ¬ (false = true) by decide)] at H; exact H
     clear H
     have H := H1
     clear H1
     exact absurd ((Option.some.inj H).trans HR_.out) (by decide)
   ·rw [if_neg c10] at H
    have c10b0 := beq_eq_false_iff_ne.mpr c10
    have c10b1 := bne_iff_ne.mpr c10
    exact absurd ((Option.some.inj H).trans HR_.out) (by decide)
  ·rw [if_neg c9] at H
   have c9b0 := beq_eq_false_iff_ne.mpr c9
   have c9b1 := bne_iff_ne.mpr c9
   exact absurd ((Option.some.inj H).trans HR_.out) (by decide)
def incunablelaw06_RunsGetTwo.Pure : Prop := ∀ (l0 : List Int) (a1 : Int) (a2 : Int), (l0.length ≤ 9223372036854775807 ∧ l0.length * 1 ≤ 140737488351232 ∧ ∀ y0_ ∈ l0, (Lit.int .u8 y0_).wf = true) → ((Lit.int .i64 a1).wf = true) → ((Lit.int .i64 a2).wf = true) → ∃ k, incunablelaw06_RunsGetTwo.f k l0 a1 a2 = some true
theorem incunablelaw06_RunsGetTwo.walk (P : incunablelaw06_RunsGetTwo.Pure) (A0 : Option Addr) (c0 : Nat) (l0 : List Int) (a1 : Int) (a2 : Int) (w : World) (hT0 : TIs w) (hr0 : Kd.C (Kd.int .u8) w A0 l0.length l0) (hc0 : l0.length ≤ c0) (g0 : l0.length ≤ 9223372036854775807 ∧ l0.length * 1 ≤ 140737488351232 ∧ ∀ y0_ ∈ l0, (Lit.int .u8 y0_).wf = true) (g1 : (Lit.int .i64 a1).wf = true) (g2 : (Lit.int .i64 a2).wf = true) :
  Calls Tryd.prog 9 #[.slice A0 l0.length c0, .int .i64 a1, .int .i64 a2] w fun e w' => e = .returned (.bool true) ∧ Below w.heap.size w w' := by
 obtain ⟨k, h⟩ := P l0 a1 a2 g0 g1 g2
 refine (incunablelaw06_RunsGetTwo.calls k A0 c0 l0 a1 a2 true w hT0 hr0 hc0 h rfl).mono ?_
 rintro e w' ⟨rfl, hd⟩
 exact ⟨rfl, hd⟩
end Go.Proofs.YtknclbodinfbeaaDoor.PRunsGetTwo
