-- Written by a program of this session (wip/tools/myprint.py) over the kit's print. Not trusted: Lean checks it.
import Derived.Test.YtknclbodinfbeaaDoorPRunsGetOnex0
import Derived.Test.YtknclbodinfbeaaDoorPRunsGetOnex6
import Derived.Test.YtknclbodinfbeaaDoorPRunsGetOnex11
import Derived.Test.YtknclbodinfbeaaDoorPRunsGetOnex15
namespace Go.Proofs.YtknclbodinfbeaaDoor.PRunsGetOne
open Go.RowKit Go.Proofs.YtknclbodinfbeaaDoorW.PrintWords Go.Proofs.YtknclbodinfbeaaDoorW.PrintLast Go.Proofs.YtknclbodinfbeaaDoorW.PrintMore
attribute [local go_sem] max2_int min2_int max_two min_two max_three min_three max_four min_four   -- for this text's walks alone
set_option linter.unusedVariables false
set_option linter.unusedSimpArgs false

/-! ### incunableref06_Get: function 55 -/
def incunableref06_Get.l0 : Nat → List Int → Int → Int → Bool → List Int → Int → Int → Int → Int → List Int → Option (Int × Int × List Int × Int × Int)
 | 0, _, _, _, _, _, _, _, _, _, _ => none
 | k + 1, x0, x1, x2, x3, x12, x13, x14, x535000, x535001, x535002 => if x14 < x2 then (if x3 = true then ((incunableref06_twoRow.f k x0 x13 x12).bind fun bt538 => (if bt538.2.2 = 0 then (if x535002.length + bt538.1.length < 140737488355328 then (incunableref06_Get.l0 k x0 x1 x2 x3 bt538.1 bt538.2.1 (wrap64 (x14 + 1)) x535000 x535001 (x535002 ++ bt538.1)) else (none)) else (some (0, 0, ([] : List Int), 0, bt538.2.2)))) else ((incunableref06_oneRow.f k x0 x13 x1).bind fun bt546 => (if bt546.2.2 = 0 then (if x535002.length + bt546.1.length < 140737488355328 then (incunableref06_Get.l0 k x0 x1 x2 x3 bt546.1 bt546.2.1 (wrap64 (x14 + 1)) x535000 x535001 (x535002 ++ bt546.1)) else (none)) else (some (0, 0, ([] : List Int), 0, bt546.2.2))))) else (some (x535000, x535001, x535002, x13, 0))
def incunableref06_Get.f (k : Nat) (l0 : List Int) (a1 : Int) (a2 : Int) (a3 : Bool) : Option (Int × Int × List Int × Int × Int) := (incunableref06_IsSize.f a1 a2).bind fun t533 => (if t533 = true then (if 0 ≤ a1 then (if (a1 : Int).toNat ≤ 281474976710656 then (incunableref06_Get.l0 k l0 a1 a2 a3 (List.replicate (a1 : Int).toNat 0) 0 0 a1 a2 ([] : List Int)) else (none)) else (none)) else (some (0, 0, ([] : List Int), 0, 2)))
theorem incunableref06_Get.mono_l : ∀ k, (∀ y0 y1 y2 y3 y4 y5 y6 y7 y8 y9, LeO (incunableref06_Get.l0 k y0 y1 y2 y3 y4 y5 y6 y7 y8 y9) (incunableref06_Get.l0 (k + 1) y0 y1 y2 y3 y4 y5 y6 y7 y8 y9))
 | 0 => fun _ _ _ _ _ _ _ _ _ _ r h => by simp [incunableref06_Get.l0] at h
 | k + 1 => by
  have ih0 := incunableref06_Get.mono_l k
  ·intro y0 y1 y2 y3 y4 y5 y6 y7 y8 y9
   unfold incunableref06_Get.l0
   repeat' first
   | (with_reducible exact ih0 _ _ _ _ _ _ _ _ _ _)
   | (with_reducible exact incunableref06_oneRow.mono _ _ _ _)
   | (with_reducible exact incunableref06_twoRow.mono _ _ _ _)
   | (with_reducible first | exact LeO.refl _ | exact LeO.none _ | refine LeO.ite ?_ ?_ | refine LeO.bind ?_ (fun _ => ?_))
   | exact ih0 _ _ _ _ _ _ _ _ _ _
   | exact incunableref06_oneRow.mono _ _ _ _
   | exact incunableref06_twoRow.mono _ _ _ _
   | exact LeO.none _ | refine LeO.ite ?_ ?_ | refine LeO.bind ?_ (fun _ => ?_)
theorem incunableref06_Get.mono : ∀ a0 a1 a2 a3 k, LeO (incunableref06_Get.f k a0 a1 a2 a3) (incunableref06_Get.f (k + 1) a0 a1 a2 a3) := by
 intro a0 a1 a2 a3 k
 have ih0 := incunableref06_Get.mono_l k
 unfold incunableref06_Get.f
 repeat' first
   | (with_reducible exact ih0 _ _ _ _ _ _ _ _ _ _)
   | (with_reducible exact incunableref06_oneRow.mono _ _ _ _)
   | (with_reducible exact incunableref06_twoRow.mono _ _ _ _)
   | (with_reducible first | exact LeO.refl _ | exact LeO.none _ | refine LeO.ite ?_ ?_ | refine LeO.bind ?_ (fun _ => ?_))
   | exact ih0 _ _ _ _ _ _ _ _ _ _
   | exact incunableref06_oneRow.mono _ _ _ _
   | exact incunableref06_twoRow.mono _ _ _ _
   | exact LeO.none _ | refine LeO.ite ?_ ?_ | refine LeO.bind ?_ (fun _ => ?_)
set_option maxHeartbeats 8000000 in
set_option maxRecDepth 100000 in
theorem incunableref06_Get.calls (k : Nat) (A0 : Option Addr) (c0 : Nat) (l0 : List Int) (a1 : Int) (a2 : Int) (a3 : Bool) (r1 : Int) (r2 : Int) (r3 : List Int) (r4 : Int) (r5 : Int) (w : World) (hr0 : Kd.C (Kd.int .u8) w A0 l0.length l0) (hc0 : l0.length ≤ c0) (h : incunableref06_Get.f k l0 a1 a2 a3 = some (r1, r2, r3, r4, r5)) :
  Calls Tryd.prog 55 #[.slice A0 l0.length c0, .int .i64 a1, .int .i64 a2, .bool a3] w fun e w' => ∃ v2_ : Value, e = .returned (.tuple #[.agg #[.int .i64 r1, .int .i64 r2, v2_], .int .i64 r4, .int .i64 r5]) ∧ Kd.R (Kd.int .u8) 5 w' w.heap.size (fun _ => True) v2_ r3 ∧ Below w.heap.size w w' := by
 have hu48 := Tryd.underlying48
 have HR0 := Aside0.mk hr0
 have HC0 := Aside0.mk hc0
 clear hr0 hc0
 have HB := Aside0.mk (Below.refl w.heap.size w)
 have H : ((incunableref06_IsSize.f a1 a2).bind fun t533 => (if t533 = true then (if 0 ≤ a1 then (if (a1 : Int).toNat ≤ 281474976710656 then (incunableref06_Get.l0 k l0 a1 a2 a3 (List.replicate (a1 : Int).toNat 0) 0 0 a1 a2 ([] : List Int)) else (none)) else (none)) else (some (0, 0, ([] : List Int), 0, 2)))) = some (r1, r2, r3, r4, r5) := h
 clear h
 replace H := Option.bind_eq_some_iff.mp H
 obtain ⟨t533, A50, H⟩ := H
 replace H : (if t533 = true then (if 0 ≤ a1 then (if (a1 : Int).toNat ≤ 281474976710656 then (incunableref06_Get.l0 k l0 a1 a2 a3 (List.replicate (a1 : Int).toNat 0) 0 0 a1 a2 ([] : List Int)) else (none)) else (none)) else (some (0, 0, ([] : List Int), 0, 2))) = some (r1, r2, r3, r4, r5) := H
 have A5 := Aside0.mk A50
 clear A50
 by_cases c6 : t533 = true
 ·subst c6
  have H1 : (if 0 ≤ a1 then (if (a1 : Int).toNat ≤ 281474976710656 then (incunableref06_Get.l0 k l0 a1 a2 a3 (List.replicate (a1 : Int).toNat 0) 0 0 a1 a2 ([] : List Int)) else (none)) else (none)) = some (r1, r2, r3, r4, r5) := by rw [if_pos rfl] at H; exact H
  clear H
  have H := H1
  clear H1
  by_cases c7 : 0 ≤ a1
  ·rw [if_pos c7] at H
   have c7b0 := eq_true c7
   have c7b1 := decide_eq_true c7
   clear c7
   by_cases c8 : (a1 : Int).toNat ≤ 281474976710656
   ·rw [if_pos c8] at H
    have c8b0 := eq_true c8
    have c8b1 := decide_eq_true c8
    clear c8
    obtain ⟨y535, hy_⟩ : ∃ y_ : List Int, y_ = (List.replicate (a1 : Int).toNat 0) := ⟨_, rfl⟩
    replace H : (incunableref06_Get.l0 k l0 a1 a2 a3 y535 0 0 a1 a2 ([] : List Int)) = some (r1, r2, r3, r4, r5) := rh
    have Ny535 := aE hy_
    clear hy_
    have H' := Aside0.mk H
    clear H
    go_enter Tryd.func55, Tryd.ntmps55
    go_wp2_with (first | ((with_reducible refine gd 8 rfl ?_); refine bx 8 #[.int .i64 0, .int .i64 0, .slice none 0 0] 48 rfl rfl ?_; intro gb532 hg w9 hbox hb; have n_ := aC (bs hb) (aC hbox (aC (gz hg) (aE (gz hg)))); clear HB; obtain ⟨HB, BK532, GW532, GE532⟩ := n_; clear hb hbox hg) | ((with_reducible refine gf 51 rfl ?_); refine gL (some 19) rfl rfl Tryd.func51 rfl #[.int .i64 a1, .int .i64 a2] rfl ?_; (with_reducible refine (incunableref06_IsSize.calls a1 a2 true _ A5.out).mono ?_); rintro e w' ⟨rfl, ⟨nd, rfl⟩⟩; refine ⟨_, rfl, ?_⟩; (try (rw [drewN_self w9]; generalize hq_ : World.drewN w9 _ = w9; have n0_ : Aside0 (w9.heap[gb532]? = some (.cells #[.int .i64 0, .int .i64 0, .slice none 0 0] 48 (0, 0))) := ⟨by rw [← hq_]; exact (bU BK532.out)⟩; have n1_ : Aside0 (Below w.heap.size w w9) := ⟨by rw [← hq_]; exact bl⟩; clear BK532 HB hq_; have BK532 := n0_; have HB := n1_; clear n0_ n1_))) | ((with_reducible refine gd 11 rfl ?_); refine bx 11 #[.int .i64 0, .int .i64 0, .slice none 0 0] 48 rfl rfl ?_; intro gb534 hg w10 hbox hb; have n_ := aC (blk_below (bU BK532.out) hb) (aC (bs hb) (aC hbox (aC (gz hg) (aC (gz hg) (aC (gn hg (bU BK532.out)) (aE (gm hg (bU BK532.out)))))))); clear BK532 HB; obtain ⟨BK532, HB, BK534, GW534, GE534, NB532_534, NB534_532⟩ := n_; clear hb hbox hg; have hnb11 := NB534_532.out; have hnc11 := NB532_534.out; obtain ⟨hcz12_0, hcz12_1, hcz12_2, hfz12_0, hfz12_1, hfz12_2⟩ := cz3f BK534.out) | ((with_reducible refine gd 26 rfl ?_); refine Kd.R_make (Kd.int .u8) _ 5 rfl (N := 26) rfl 22 _ _ rfl a1 rfl rfl Tryd.underlying22 (.int .u8 0) 1 info5 rfl (by decide) (by omega) 0 (ok := fun _ => True) (okp := fun _ => True) rfl (fun _ hk => hk) trivial (dt) (Nat.le_trans (Nat.mul_le_mul_right _ (dt : a1.toNat ≤ 281474976710656)) (by omega)) (Below.refl _ _) (Nat.le_refl _) ?_; intro v536 w13 ho14 hb hg_ hnew_; clear hg_ hnew_; (first | rw [← Ny535.out] at ho14 | (simp only [Int.reduceToNat] at ho14; rw [← Ny535.out] at ho14)); have n_ := aC (Kd.R_lower ho14 bz) (aC (blk_below (g := gb532) (o := .cells #[.int .i64 0, .int .i64 0, .slice none 0 0] 48 (0, 0)) (by (with_reducible repeat (first | refine blk_drewN ?_ _ | refine blk_drew ?_ | refine blk_alloc ?_ _)); refine blk_far ?_ NB532_534.out _; (with_reducible repeat (first | refine blk_drewN ?_ _ | refine blk_drew ?_ | refine blk_alloc ?_ _)); refine blk_far ?_ NB532_534.out _; (with_reducible repeat (first | refine blk_drewN ?_ _ | refine blk_drew ?_ | refine blk_alloc ?_ _)); refine blk_far ?_ NB532_534.out _; (with_reducible repeat (first | refine blk_drewN ?_ _ | refine blk_drew ?_ | refine blk_alloc ?_ _)); exact BK532.out) hb) (aC (blk_below (g := gb534) (o := .cells #[.int .i64 a1, .int .i64 a2, .slice none 0 0] 48 (0, 0)) (by (with_reducible repeat (first | refine blk_drewN ?_ _ | refine blk_drew ?_ | refine blk_alloc ?_ _)); refine blk_put (cs := #[.int .i64 a1, .int .i64 a2, .slice none 0 0]) ?_ 2 _ rfl; (with_reducible repeat (first | refine blk_drewN ?_ _ | refine blk_drew ?_ | refine blk_alloc ?_ _)); refine blk_put (cs := #[.int .i64 a1, .int .i64 0, .slice none 0 0]) ?_ 1 _ rfl; (with_reducible repeat (first | refine blk_drewN ?_ _ | refine blk_drew ?_ | refine blk_alloc ?_ _)); refine blk_put (cs := #[.int .i64 0, .int .i64 0, .slice none 0 0]) ?_ 0 _ rfl; (with_reducible repeat (first | refine blk_drewN ?_ _ | refine blk_drew ?_ | refine blk_alloc ?_ _)); exact BK534.out) hb) (aE (bs hb)))); clear BK532 BK534 HB; obtain ⟨HO537, BK532, BK534, HB⟩ := n_; clear hb ho14))
    go_loopg [12, 13, 14] k (fun kq v12 v13 v14 w' => ∃ (x12_1 : List Int) (x13_1 : Int) (x14_1 : Int) (x533000_1 : Int) (x533001_1 : Int) (x535002_1 : List Int) (u535002 : Value), v13 = .int .i64 x13_1 ∧ v14 = .int .i64 x14_1 ∧ Aside0 (incunableref06_Get.l0 kq l0 a1 a2 a3 x12_1 x13_1 x14_1 a1 a2 x535002_1 = some (r1, r2, r3, r4, r5)) ∧ Aside0 (kq ≤ k) ∧ Aside0 (Kd.R (Kd.int .u8) 5 w' w.heap.size (fun k_ => some k_ ≠ (u535002 : Value).ownBlock) v12 x12_1) ∧ Aside0 (Kd.R (Kd.int .u8) 5 w' w.heap.size (fun k_ => some k_ ≠ (v12 : Value).ownBlock) u535002 x535002_1) ∧ Aside0 (w'.heap[gb532]? = some (.cells #[.int .i64 x533000_1, .int .i64 x533001_1, (.slice none 0 0)] 48 (0, 0))) ∧ Aside0 (w'.heap[gb534]? = some (.cells #[.int .i64 a1, .int .i64 a2, u535002] 48 (0, 0))) ∧ Aside0 (Below w.heap.size w w'))
    case atStart => exact ⟨(y535), (0), (0), (0), (0), (([] : List Int)), (.slice none 0 0), rq, rq, H', ⟨Nat.le_refl _⟩, ⟨rU (Kd.R_mono HO537.out (fun _ hk => (by simp [Value.ownBlock])))⟩, ⟨by first | exact Kd.R_nil _ _ _ _ _ | exact Kd.N_nil _ _ _ _ _ | exact Kd.V_nil _ _ _ _ _ | exact Kd.Q_nil _ _ _ _ _ | exact Kd.S_nil _ _ _ _ _⟩, ⟨bU BK532.out⟩, ⟨bU BK534.out⟩, ⟨bl⟩⟩
    case round =>
     clear H'
     obtain ⟨x12_1, x13_1, x14_1, x533000_1, x533001_1, x535002_1, u535002, rfl, rfl, HA, HK1, HO_12, HO_535002, BK532, BK534, HB⟩ := hrel
     cases gk with
     | zero => exact absurd HA.out (by simp [incunableref06_Get.l0])
     | succ k1 =>
      have H := HA.out
      clear HA
      simp only [incunableref06_Get.l0] at H
      by_cases c15 : x14_1 < a2
      ·rw [if_pos c15] at H
       have c15b0 := decide_eq_true c15
       clear c15
       by_cases c16 : a3 = true
       ·subst c16
        have H1 : ((incunableref06_twoRow.f k1 l0 x13_1 x12_1).bind fun bt538 => (if bt538.2.2 = 0 then (if x535002_1.length + bt538.1.length < 140737488355328 then (incunableref06_Get.l0 k1 l0 a1 a2 true bt538.1 bt538.2.1 (wrap64 (x14_1 + 1)) a1 a2 (x535002_1 ++ bt538.1)) else (none)) else (some (0, 0, ([] : List Int), 0, bt538.2.2)))) = some (r1, r2, r3, r4, r5) := by rw [if_pos rfl] at H; exact H
        clear H
        have H := H1
        clear H1
        replace H := Option.bind_eq_some_iff.mp H
        obtain ⟨⟨t538, t539, t540⟩, A170, H⟩ := H
        replace H : (if t540 = 0 then (if x535002_1.length + t538.length < 140737488355328 then (incunableref06_Get.l0 k1 l0 a1 a2 true t538 t539 (wrap64 (x14_1 + 1)) a1 a2 (x535002_1 ++ t538)) else (none)) else (some (0, 0, ([] : List Int), 0, t540))) = some (r1, r2, r3, r4, r5) := H
        have A17 := Aside0.mk A170
        clear A170
        by_cases c18 : t540 = 0
        ·rw [if_pos c18] at H
         have c18b0 := beq_iff_eq.mpr c18
         have c18b1 := bne_eq_false_iff_eq.mpr c18
         clear c18
         by_cases c19 : x535002_1.length + t538.length < 140737488355328
         ·rw [if_pos c19] at H
          have LMc19 := Aside0.mk c19
          clear c19
          obtain ⟨y543, hy_⟩ : ∃ y_ : List Int, y_ = (x535002_1 ++ t538) := ⟨_, rfl⟩
          replace H : (incunableref06_Get.l0 k1 l0 a1 a2 true t538 t539 (wrap64 (x14_1 + 1)) a1 a2 y543) = some (r1, r2, r3, r4, r5) := rh
          have Ny543 := aE hy_
          clear hy_
          have H' := Aside0.mk H
          clear H
          obtain ⟨Ao20, co20, eo20⟩ := Kd.R_slice HO_12.out
          subst eo20
          go_wp2_with (first | ((with_reducible refine gf 82 rfl ?_); refine gL (some 37) rfl rfl Tryd.func82 rfl #[.slice A0 l0.length c0, .int .i64 x13_1, .slice Ao20 x12_1.length co20] rfl ?_; (with_reducible refine (incunableref06_twoRow.calls k1 _ _ l0 x13_1 _ _ x12_1 t538 t539 t540 _ ?side1 ?side2 ?side3 ?side4 A17.out).mono ?_); (case side1 => exact cU (Kd.C_below HR0.out HB.out)); (case side2 => exact HC0.out); (case side3 => exact cU (Kd.R_reads' HO_12.out).2.2); (case side4 => exact (Kd.R_reads' HO_12.out).2.1); rintro e w21 ⟨v541, rfl, ho0, hb⟩; refine ⟨_, rfl, ?_⟩; have n_ := aC (Kd.R_elder' (rU HO_12.out) (Kd.R_base ho0) hb) (aC (Kd.R_elder' (rU HO_535002.out) (Kd.R_base ho0) hb) (aC (Kd.R_lower (Kd.R_new' (Kd.R_new' ho0 (Kd.R_lt (rU HO_12.out))) (Kd.R_lt (rU HO_535002.out))) bz) (aC (blk_below (bU BK532.out) hb) (aC (blk_below (bU BK534.out) hb) (aE (bs hb)))))); clear HO_12 HO_535002 BK532 BK534 HB; obtain ⟨HO_12, HO_535002, HO542, BK532, BK534, HB⟩ := n_; (try clear hb); (try clear ho0); have hnb22 := NB534_532.out; have hnc22 := NB532_534.out; obtain ⟨hcz23_0, hcz23_1, hcz23_2, hfz23_0, hfz23_1, hfz23_2⟩ := cz3f BK534.out; obtain ⟨Ao25, co25, eo25⟩ := Kd.R_slice HO542.out; subst eo25) | ((with_reducible refine gate_builtin (b := .append) (xs := #[.tmp 54, .tmp 55]) rfl ?_); at_builtin; refine Kd.R_append_rows (Kd.int .u8) (w0 := w) w.heap.size rfl (.tmp 54) (.tmp 55) 22 5 (.int .u8 0) 1 rfl Tryd.underlying22 info5 rfl (by decide) (by omega) u535002 x535002_1 t538 _ _ _ (fun k_ => some k_ ≠ (.slice Ao20 x12_1.length co20 : Value).ownBlock ∧ some k_ ≠ (.slice Ao25 t538.length co25 : Value).ownBlock) (fun _ => False) rfl rfl ?aO ?aR (fun _ _ h => h) (fun _ h => h.elim) ?aF ?aB ?aS ?aL ?_; (case aR => repeat (first | exact (Kd.R_reads' HO542.out).2.2 | (with_reducible refine Kd.C_alloc ?_ _) | (with_reducible refine Kd.C_drewN ?_ _) | (with_reducible refine Kd.C_drew ?_))); (case aB => exact bl); (case aF => exact (fun k_ hk => ⟨Kd.fresh' (Kd.R_lt (rU HO_12.out)) k_ hk, Kd.fresh' (Kd.R_lt (rU HO542.out)) k_ hk⟩)); (case aO => exact (rU HO_535002.out)); (case aS => exact bz); (case aL => have := LMc19.out; omega); intro v544 w24 ho hb hg hat; rw [← Ny543.out] at ho; have n_ := aC (Kd.R_after (ok := (fun k_ => some k_ ≠ (.slice Ao25 t538.length co25 : Value).ownBlock)) (rU (Kd.R_mono HO_12.out (fun _ hk => ⟨hk.2, hk.1⟩))) hg hat) (aC (blk_grown (bU BK532.out) hg (Kd.R_ne HO_535002.out BK532.out (by decide))) (aC (blk_grown (bU BK534.out) hg (Kd.R_ne HO_535002.out BK534.out (by decide))) (aC (Kd.R_after (ok := (fun k_ => some k_ ≠ (.slice Ao20 x12_1.length co20 : Value).ownBlock)) (rU (Kd.R_mono HO542.out (fun _ hk => ⟨hk.1.2, hk.2⟩))) hg hat) (aC hb (aE ho))))); clear HO_12 BK532 BK534 HO542 HB HO_535002; obtain ⟨HO_12, BK532, BK534, HO542, HB, HO545⟩ := n_; clear ho hb hg hat; obtain ⟨Ao26, co26, eo26⟩ := Kd.R_slice HO545.out; subst eo26; obtain ⟨hcz27_0, hcz27_1, hcz27_2, hfz27_0, hfz27_1, hfz27_2⟩ := cz3f BK534.out))
          go_roundg k1
          case measure => have := HK1.out; omega
          case rel => exact ⟨(t538), (t539), (wrap64 (x14_1 + 1)), (x533000_1), (x533001_1), (y543), (.slice Ao26 y543.length co26), rq, rq, H', ⟨by have := HK1.out; omega⟩, ⟨rU (Kd.R_mono (Kd.R_far (p := ⟨gb534, 2, none⟩) (Kd.R_types HO542.out BK534.out (by decide)) (fun _ hk => hk.2) (.slice Ao26 y543.length co26)) (fun _ hk => hk.1.2))⟩, ⟨rU (Kd.R_mono (Kd.R_far (p := ⟨gb534, 2, none⟩) (Kd.R_types HO545.out BK534.out (by decide)) (fun _ hk => hk.2) (.slice Ao26 y543.length co26)) (fun _ hk => hk.1.2))⟩, ⟨by (with_reducible repeat (first | refine blk_drewN ?_ _ | refine blk_drew ?_ | refine blk_alloc ?_ _)); refine blk_far ?_ NB532_534.out _; (with_reducible repeat (first | refine blk_drewN ?_ _ | refine blk_drew ?_ | refine blk_alloc ?_ _)); exact BK532.out⟩, ⟨by (with_reducible repeat (first | refine blk_drewN ?_ _ | refine blk_drew ?_ | refine blk_alloc ?_ _)); refine blk_put (cs := #[.int .i64 a1, .int .i64 a2, u535002]) ?_ 2 _ rfl; (with_reducible repeat (first | refine blk_drewN ?_ _ | refine blk_drew ?_ | refine blk_alloc ?_ _)); exact BK534.out⟩, ⟨bl⟩⟩
         ·rw [if_neg c19] at H
          exact absurd H (by simp)
        ·rw [if_neg c18] at H
         have c18b0 := beq_eq_false_iff_ne.mpr c18
         have c18b1 := bne_iff_ne.mpr c18
         simp only [Option.some.injEq, Prod.mk.injEq] at H
         obtain ⟨rfl, rfl, rfl, rfl, rfl⟩ := H
         obtain ⟨Ao28, co28, eo28⟩ := Kd.R_slice HO_12.out
         subst eo28
         go_wp2_with (first | ((with_reducible refine gf 82 rfl ?_); refine gL (some 37) rfl rfl Tryd.func82 rfl #[.slice A0 l0.length c0, .int .i64 x13_1, .slice Ao28 x12_1.length co28] rfl ?_; (with_reducible refine (incunableref06_twoRow.calls k1 _ _ l0 x13_1 _ _ x12_1 t538 t539 t540 _ ?side1 ?side2 ?side3 ?side4 A17.out).mono ?_); (case side1 => exact cU (Kd.C_below HR0.out HB.out)); (case side2 => exact HC0.out); (case side3 => exact cU (Kd.R_reads' HO_12.out).2.2); (case side4 => exact (Kd.R_reads' HO_12.out).2.1); rintro e w29 ⟨v541, rfl, ho0, hb⟩; refine ⟨_, rfl, ?_⟩; have n_ := aC (Kd.R_elder' (rU HO_12.out) (Kd.R_base ho0) hb) (aC (Kd.R_elder' (rU HO_535002.out) (Kd.R_base ho0) hb) (aC (Kd.R_lower (Kd.R_new' (Kd.R_new' ho0 (Kd.R_lt (rU HO_12.out))) (Kd.R_lt (rU HO_535002.out))) bz) (aC (blk_below (bU BK532.out) hb) (aC (blk_below (bU BK534.out) hb) (aE (bs hb)))))); clear HO_12 HO_535002 BK532 BK534 HB; obtain ⟨HO_12, HO_535002, HO542, BK532, BK534, HB⟩ := n_; (try clear hb); (try clear ho0); have hnb30 := NB532_534.out; have hnc30 := NB534_532.out; obtain ⟨hcz31_0, hcz31_1, hcz31_2, hfz31_0, hfz31_1, hfz31_2⟩ := cz3f BK532.out))
         refine bodyPost_ret (results_ctt rfl _ _ gb532 48 #[.int .i64 0, .int .i64 0, .slice none 0 0] (0, 0) _ rfl (by (with_reducible repeat (first | refine blk_drewN ?_ _ | refine blk_drew ?_ | refine blk_alloc ?_ _)); refine blk_put (cs := #[.int .i64 0, .int .i64 0, .slice none 0 0]) ?_ 2 _ rfl; (with_reducible repeat (first | refine blk_drewN ?_ _ | refine blk_drew ?_ | refine blk_alloc ?_ _)); refine blk_put (cs := #[.int .i64 0, .int .i64 x533001_1, .slice none 0 0]) ?_ 1 _ rfl; (with_reducible repeat (first | refine blk_drewN ?_ _ | refine blk_drew ?_ | refine blk_alloc ?_ _)); refine blk_put (cs := #[.int .i64 x533000_1, .int .i64 x533001_1, .slice none 0 0]) ?_ 0 _ rfl; (with_reducible repeat (first | refine blk_drewN ?_ _ | refine blk_drew ?_ | refine blk_alloc ?_ _)); exact BK532.out) Tryd.underlying48 rfl (by kernel_rfl)) rfl ?_
         exact ⟨_, re, by first | exact Kd.R_nil _ _ _ _ _ | exact Kd.N_nil _ _ _ _ _ | exact Kd.V_nil _ _ _ _ _ | exact Kd.Q_nil _ _ _ _ _ | exact Kd.S_nil _ _ _ _ _, bl⟩
       ·replace c16 := Bool.eq_false_iff.mpr c16
        subst c16
        have H1 : ((incunableref06_oneRow.f k1 l0 x13_1 a1).bind fun bt546 => (if bt546.2.2 = 0 then (if x535002_1.length + bt546.1.length < 140737488355328 then (incunableref06_Get.l0 k1 l0 a1 a2 false bt546.1 bt546.2.1 (wrap64 (x14_1 + 1)) a1 a2 (x535002_1 ++ bt546.1)) else (none)) else (some (0, 0, ([] : List Int), 0, bt546.2.2)))) = some (r1, r2, r3, r4, r5) := by rw [if_neg (show ¬ (false = true) by decide)] at H; exact H
        clear H
        have H := H1
        clear H1
        replace H := Option.bind_eq_some_iff.mp H
        obtain ⟨⟨t546, t547, t548⟩, A320, H⟩ := H
        replace H : (if t548 = 0 then (if x535002_1.length + t546.length < 140737488355328 then (incunableref06_Get.l0 k1 l0 a1 a2 false t546 t547 (wrap64 (x14_1 + 1)) a1 a2 (x535002_1 ++ t546)) else (none)) else (some (0, 0, ([] : List Int), 0, t548))) = some (r1, r2, r3, r4, r5) := H
        have A32 := Aside0.mk A320
        clear A320
        by_cases c33 : t548 = 0
        ·rw [if_pos c33] at H
         have c33b0 := beq_iff_eq.mpr c33
         have c33b1 := bne_eq_false_iff_eq.mpr c33
         clear c33
         by_cases c34 : x535002_1.length + t546.length < 140737488355328
         ·rw [if_pos c34] at H
          have LMc34 := Aside0.mk c34
          clear c34
          obtain ⟨y551, hy_⟩ : ∃ y_ : List Int, y_ = (x535002_1 ++ t546) := ⟨_, rfl⟩
          replace H : (incunableref06_Get.l0 k1 l0 a1 a2 false t546 t547 (wrap64 (x14_1 + 1)) a1 a2 y551) = some (r1, r2, r3, r4, r5) := rh
          have Ny551 := aE hy_
          clear hy_
          have H' := Aside0.mk H
          clear H
          go_wp2_with (first | ((with_reducible refine gf 83 rfl ?_); refine gL (some 45) rfl rfl Tryd.func83 rfl #[.slice A0 l0.length c0, .int .i64 x13_1, .int .i64 a1] rfl ?_; (with_reducible refine (incunableref06_oneRow.calls k1 _ _ l0 x13_1 a1 t546 t547 t548 _ ?side1 ?side2 A32.out).mono ?_); (case side1 => exact cU (Kd.C_below HR0.out HB.out)); (case side2 => exact HC0.out); rintro e w35 ⟨v549, rfl, ho0, hb⟩; refine ⟨_, rfl, ?_⟩; have n_ := aC (Kd.R_elder' (rU HO_12.out) (Kd.R_base ho0) hb) (aC (Kd.R_elder' (rU HO_535002.out) (Kd.R_base ho0) hb) (aC (Kd.R_lower (Kd.R_new' (Kd.R_new' ho0 (Kd.R_lt (rU HO_12.out))) (Kd.R_lt (rU HO_535002.out))) bz) (aC (blk_below (bU BK532.out) hb) (aC (blk_below (bU BK534.out) hb) (aE (bs hb)))))); clear HO_12 HO_535002 BK532 BK534 HB; obtain ⟨HO_12, HO_535002, HO550, BK532, BK534, HB⟩ := n_; (try clear hb); (try clear ho0); have hnb36 := NB534_532.out; have hnc36 := NB532_534.out; obtain ⟨hcz37_0, hcz37_1, hcz37_2, hfz37_0, hfz37_1, hfz37_2⟩ := cz3f BK534.out; obtain ⟨Ao39, co39, eo39⟩ := Kd.R_slice HO550.out; subst eo39) | ((with_reducible refine gate_builtin (b := .append) (xs := #[.tmp 54, .tmp 55]) rfl ?_); at_builtin; refine Kd.R_append_rows (Kd.int .u8) (w0 := w) w.heap.size rfl (.tmp 54) (.tmp 55) 22 5 (.int .u8 0) 1 rfl Tryd.underlying22 info5 rfl (by decide) (by omega) u535002 x535002_1 t546 _ _ _ (fun k_ => some k_ ≠ (u12 : Value).ownBlock ∧ some k_ ≠ (.slice Ao39 t546.length co39 : Value).ownBlock) (fun _ => False) rfl rfl ?aO ?aR (fun _ _ h => h) (fun _ h => h.elim) ?aF ?aB ?aS ?aL ?_; (case aR => repeat (first | exact (Kd.R_reads' HO550.out).2.2 | (with_reducible refine Kd.C_alloc ?_ _) | (with_reducible refine Kd.C_drewN ?_ _) | (with_reducible refine Kd.C_drew ?_))); (case aB => exact bl); (case aF => exact (fun k_ hk => ⟨Kd.fresh' (Kd.R_lt (rU HO_12.out)) k_ hk, Kd.fresh' (Kd.R_lt (rU HO550.out)) k_ hk⟩)); (case aO => exact (rU HO_535002.out)); (case aS => exact bz); (case aL => have := LMc34.out; omega); intro v552 w38 ho hb hg hat; rw [← Ny551.out] at ho; have n_ := aC (Kd.R_after (ok := (fun k_ => some k_ ≠ (.slice Ao39 t546.length co39 : Value).ownBlock)) (rU (Kd.R_mono HO_12.out (fun _ hk => ⟨hk.2, hk.1⟩))) hg hat) (aC (blk_grown (bU BK532.out) hg (Kd.R_ne HO_535002.out BK532.out (by decide))) (aC (blk_grown (bU BK534.out) hg (Kd.R_ne HO_535002.out BK534.out (by decide))) (aC (Kd.R_after (ok := (fun k_ => some k_ ≠ (u12 : Value).ownBlock)) (rU (Kd.R_mono HO550.out (fun _ hk => ⟨hk.1.2, hk.2⟩))) hg hat) (aC hb (aE ho))))); clear HO_12 BK532 BK534 HO550 HB HO_535002; obtain ⟨HO_12, BK532, BK534, HO550, HB, HO553⟩ := n_; clear ho hb hg hat; obtain ⟨Ao40, co40, eo40⟩ := Kd.R_slice HO553.out; subst eo40; obtain ⟨hcz41_0, hcz41_1, hcz41_2, hfz41_0, hfz41_1, hfz41_2⟩ := cz3f BK534.out))
          go_roundg k1
          case measure => have := HK1.out; omega
          case rel => exact ⟨(t546), (t547), (wrap64 (x14_1 + 1)), (x533000_1), (x533001_1), (y551), (.slice Ao40 y551.length co40), rq, rq, H', ⟨by have := HK1.out; omega⟩, ⟨rU (Kd.R_mono (Kd.R_far (p := ⟨gb534, 2, none⟩) (Kd.R_types HO550.out BK534.out (by decide)) (fun _ hk => hk.2) (.slice Ao40 y551.length co40)) (fun _ hk => hk.1.2))⟩, ⟨rU (Kd.R_mono (Kd.R_far (p := ⟨gb534, 2, none⟩) (Kd.R_types HO553.out BK534.out (by decide)) (fun _ hk => hk.2) (.slice Ao40 y551.length co40)) (fun _ hk => hk.1.2))⟩, ⟨by (with_reducible repeat (first | refine blk_drewN ?_ _ | refine blk_drew ?_ | refine blk_alloc ?_ _)); refine blk_far ?_ NB532_534.out _; (with_reducible repeat (first | refine blk_drewN ?_ _ | refine blk_drew ?_ | refine blk_alloc ?_ _)); exact BK532.out⟩, ⟨by (with_reducible repeat (first | refine blk_drewN ?_ _ | refine blk_drew ?_ | refine blk_alloc ?_ _)); refine blk_put (cs := #[.int .i64 a1, .int .i64 a2, u535002]) ?_ 2 _ rfl; (with_reducible repeat (first | refine blk_drewN ?_ _ | refine blk_drew ?_ | refine blk_alloc ?_ _)); exact BK534.out⟩, ⟨bl⟩⟩
         ·rw [if_neg c34] at H
          exact absurd H (by simp)
        ·rw [if_neg c33] at H
         have c33b0 := beq_eq_false_iff_ne.mpr c33
         have c33b1 := bne_iff_ne.mpr c33
         simp only [Option.some.injEq, Prod.mk.injEq] at H
         obtain ⟨rfl, rfl, rfl, rfl, rfl⟩ := H
         go_wp2_with (first | ((with_reducible refine gf 83 rfl ?_); refine gL (some 45) rfl rfl Tryd.func83 rfl #[.slice A0 l0.length c0, .int .i64 x13_1, .int .i64 a1] rfl ?_; (with_reducible refine (incunableref06_oneRow.calls k1 _ _ l0 x13_1 a1 t546 t547 t548 _ ?side1 ?side2 A32.out).mono ?_); (case side1 => exact cU (Kd.C_below HR0.out HB.out)); (case side2 => exact HC0.out); rintro e w42 ⟨v549, rfl, ho0, hb⟩; refine ⟨_, rfl, ?_⟩; have n_ := aC (Kd.R_elder' (rU HO_12.out) (Kd.R_base ho0) hb) (aC (Kd.R_elder' (rU HO_535002.out) (Kd.R_base ho0) hb) (aC (Kd.R_lower (Kd.R_new' (Kd.R_new' ho0 (Kd.R_lt (rU HO_12.out))) (Kd.R_lt (rU HO_535002.out))) bz) (aC (blk_below (bU BK532.out) hb) (aC (blk_below (bU BK534.out) hb) (aE (bs hb)))))); clear HO_12 HO_535002 BK532 BK534 HB; obtain ⟨HO_12, HO_535002, HO550, BK532, BK534, HB⟩ := n_; (try clear hb); (try clear ho0); have hnb43 := NB532_534.out; have hnc43 := NB534_532.out; obtain ⟨hcz44_0, hcz44_1, hcz44_2, hfz44_0, hfz44_1, hfz44_2⟩ := cz3f BK532.out))
         refine bodyPost_ret (results_ctt rfl _ _ gb532 48 #[.int .i64 0, .int .i64 0, .slice none 0 0] (0, 0) _ rfl (by (with_reducible repeat (first | refine blk_drewN ?_ _ | refine blk_drew ?_ | refine blk_alloc ?_ _)); refine blk_put (cs := #[.int .i64 0, .int .i64 0, .slice none 0 0]) ?_ 2 _ rfl; (with_reducible repeat (first | refine blk_drewN ?_ _ | refine blk_drew ?_ | refine blk_alloc ?_ _)); refine blk_put (cs := #[.int .i64 0, .int .i64 x533001_1, .slice none 0 0]) ?_ 1 _ rfl; (with_reducible repeat (first | refine blk_drewN ?_ _ | refine blk_drew ?_ | refine blk_alloc ?_ _)); refine blk_put (cs := #[.int .i64 x533000_1, .int .i64 x533001_1, .slice none 0 0]) ?_ 0 _ rfl; (with_reducible repeat (first | refine blk_drewN ?_ _ | refine blk_drew ?_ | refine blk_alloc ?_ _)); exact BK532.out) Tryd.underlying48 rfl (by kernel_rfl)) rfl ?_
         exact ⟨_, re, by first | exact Kd.R_nil _ _ _ _ _ | exact Kd.N_nil _ _ _ _ _ | exact Kd.V_nil _ _ _ _ _ | exact Kd.Q_nil _ _ _ _ _ | exact Kd.S_nil _ _ _ _ _, bl⟩
      ·rw [if_neg c15] at H
       have c15b0 := decide_eq_false c15
       clear c15
       simp only [Option.some.injEq, Prod.mk.injEq] at H
       obtain ⟨rfl, rfl, rfl, rfl, rfl⟩ := H
       have hnb45 := NB534_532.out
       have hnc45 := NB532_534.out
       obtain ⟨hcz46_0, hcz46_1, hcz46_2, hfz46_0, hfz46_1, hfz46_2⟩ := cz3f BK534.out
       obtain ⟨hcz47_0, hcz47_1, hcz47_2, hfz47_0, hfz47_1, hfz47_2⟩ := cz3f BK532.out
       obtain ⟨Ao48, co48, eo48⟩ := Kd.R_slice HO_535002.out
       subst eo48
       go_wp2
       refine bodyPost_ret (results_ctt rfl _ _ gb532 48 #[.int .i64 a1, .int .i64 a2, .slice Ao48 x535002_1.length co48] (0, 0) _ rfl (by (with_reducible repeat (first | refine blk_drewN ?_ _ | refine blk_drew ?_ | refine blk_alloc ?_ _)); refine blk_put (cs := #[.int .i64 a1, .int .i64 a2, .slice none 0 0]) ?_ 2 _ rfl; (with_reducible repeat (first | refine blk_drewN ?_ _ | refine blk_drew ?_ | refine blk_alloc ?_ _)); refine blk_put (cs := #[.int .i64 a1, .int .i64 x533001_1, .slice none 0 0]) ?_ 1 _ rfl; (with_reducible repeat (first | refine blk_drewN ?_ _ | refine blk_drew ?_ | refine blk_alloc ?_ _)); refine blk_put (cs := #[.int .i64 x533000_1, .int .i64 x533001_1, .slice none 0 0]) ?_ 0 _ rfl; (with_reducible repeat (first | refine blk_drewN ?_ _ | refine blk_drew ?_ | refine blk_alloc ?_ _)); exact BK532.out) Tryd.underlying48 rfl (by kernel_rfl)) rfl ?_
       exact ⟨_, re, rU (Kd.R_mono (Kd.R_far (p := ⟨gb532, 2, none⟩) (Kd.R_far (p := ⟨gb532, 1, none⟩) (Kd.R_far (p := ⟨gb532, 0, none⟩) (Kd.R_types HO_535002.out BK532.out (by decide)) (fun _ hk => hk.2) (.int .i64 a1)) (fun _ hk => hk.2) (.int .i64 a2)) (fun _ hk => hk.2) (.slice Ao48 x535002_1.length co48)) (fun _ hk => trivial)), bl⟩
   ·rw [if_neg c8] at H
    exact absurd H (by simp)
  ·rw [if_neg c7] at H
   exact absurd H (by simp)
 ·replace c6 := Bool.eq_false_iff.mpr c6
  subst c6
  have H1 : (some (0, 0, ([] : List Int), 0, 2)) = some (r1, r2, r3, r4, r5) := by rw [if_neg (show ¬ (false = true) by decide)] at H; exact H
  clear H
  have H := H1
  clear H1
  simp only [Option.some.injEq, Prod.mk.injEq] at H
  obtain ⟨rfl, rfl, rfl, rfl, rfl⟩ := H
  go_enter Tryd.func55, Tryd.ntmps55
  go_wp2_with (first | ((with_reducible refine gd 8 rfl ?_); refine bx 8 #[.int .i64 0, .int .i64 0, .slice none 0 0] 48 rfl rfl ?_; intro gb532 hg w49 hbox hb; have n_ := aC (bs hb) (aC hbox (aC (gz hg) (aE (gz hg)))); clear HB; obtain ⟨HB, BK532, GW532, GE532⟩ := n_; clear hb hbox hg) | ((with_reducible refine gf 51 rfl ?_); refine gL (some 19) rfl rfl Tryd.func51 rfl #[.int .i64 a1, .int .i64 a2] rfl ?_; (with_reducible refine (incunableref06_IsSize.calls a1 a2 false _ A5.out).mono ?_); rintro e w' ⟨rfl, ⟨nd, rfl⟩⟩; refine ⟨_, rfl, ?_⟩; (try (rw [drewN_self w49]; generalize hq_ : World.drewN w49 _ = w49; have n0_ : Aside0 (w49.heap[gb532]? = some (.cells #[.int .i64 0, .int .i64 0, .slice none 0 0] 48 (0, 0))) := ⟨by rw [← hq_]; exact (bU BK532.out)⟩; have n1_ : Aside0 (Below w.heap.size w w49) := ⟨by rw [← hq_]; exact bl⟩; clear BK532 HB hq_; have BK532 := n0_; have HB := n1_; clear n0_ n1_)); obtain ⟨hcz50_0, hcz50_1, hcz50_2, hfz50_0, hfz50_1, hfz50_2⟩ := cz3f BK532.out))
  refine bodyPost_ret (results_ctt rfl _ _ gb532 48 #[.int .i64 0, .int .i64 0, .slice none 0 0] (0, 0) _ rfl (by (with_reducible repeat (first | refine blk_drewN ?_ _ | refine blk_drew ?_ | refine blk_alloc ?_ _)); refine blk_put (cs := #[.int .i64 0, .int .i64 0, .slice none 0 0]) ?_ 2 _ rfl; (with_reducible repeat (first | refine blk_drewN ?_ _ | refine blk_drew ?_ | refine blk_alloc ?_ _)); refine blk_put (cs := #[.int .i64 0, .int .i64 0, .slice none 0 0]) ?_ 1 _ rfl; (with_reducible repeat (first | refine blk_drewN ?_ _ | refine blk_drew ?_ | refine blk_alloc ?_ _)); refine blk_put (cs := #[.int .i64 0, .int .i64 0, .slice none 0 0]) ?_ 0 _ rfl; (with_reducible repeat (first | refine blk_drewN ?_ _ | refine blk_drew ?_ | refine blk_alloc ?_ _)); exact BK532.out) Tryd.underlying48 rfl (by kernel_rfl)) rfl ?_
  exact ⟨_, re, by first | exact Kd.R_nil _ _ _ _ _ | exact Kd.N_nil _ _ _ _ _ | exact Kd.V_nil _ _ _ _ _ | exact Kd.Q_nil _ _ _ _ _ | exact Kd.S_nil _ _ _ _ _, bl⟩

/-! ### incunableref06_GetOne: function 31 -/
def incunableref06_GetOne.f (k : Nat) (l0 : List Int) (a1 : Int) (a2 : Int) : Option (Int × Int × List Int × Int × Int) := (incunableref06_Get.f k l0 a1 a2 false).bind fun bt555 => (some (bt555.1, bt555.2.1, bt555.2.2.1, bt555.2.2.2.1, bt555.2.2.2.2))
theorem incunableref06_GetOne.mono : ∀ a0 a1 a2 k, LeO (incunableref06_GetOne.f k a0 a1 a2) (incunableref06_GetOne.f (k + 1) a0 a1 a2) := by
 intro a0 a1 a2 k
 unfold incunableref06_GetOne.f
 repeat' first
   | (with_reducible exact incunableref06_Get.mono _ _ _ _ _)
   | (with_reducible first | exact LeO.refl _ | exact LeO.none _ | refine LeO.ite ?_ ?_ | refine LeO.bind ?_ (fun _ => ?_))
   | exact incunableref06_Get.mono _ _ _ _ _
   | exact LeO.none _ | refine LeO.ite ?_ ?_ | refine LeO.bind ?_ (fun _ => ?_)
set_option maxHeartbeats 8000000 in
set_option maxRecDepth 100000 in
theorem incunableref06_GetOne.calls (k : Nat) (A0 : Option Addr) (c0 : Nat) (l0 : List Int) (a1 : Int) (a2 : Int) (r1 : Int) (r2 : Int) (r3 : List Int) (r4 : Int) (r5 : Int) (w : World) (hr0 : Kd.C (Kd.int .u8) w A0 l0.length l0) (hc0 : l0.length ≤ c0) (h : incunableref06_GetOne.f k l0 a1 a2 = some (r1, r2, r3, r4, r5)) :
  Calls Tryd.prog 31 #[.slice A0 l0.length c0, .int .i64 a1, .int .i64 a2] w fun e w' => ∃ v2_ : Value, e = .returned (.tuple #[.agg #[.int .i64 r1, .int .i64 r2, v2_], .int .i64 r4, .int .i64 r5]) ∧ Kd.R (Kd.int .u8) 5 w' w.heap.size (fun _ => True) v2_ r3 ∧ Below w.heap.size w w' := by
 have hu48 := Tryd.underlying48
 have HR0 := Aside0.mk hr0
 have HC0 := Aside0.mk hc0
 clear hr0 hc0
 have HB := Aside0.mk (Below.refl w.heap.size w)
 have H : ((incunableref06_Get.f k l0 a1 a2 false).bind fun bt555 => (some (bt555.1, bt555.2.1, bt555.2.2.1, bt555.2.2.2.1, bt555.2.2.2.2))) = some (r1, r2, r3, r4, r5) := h
 clear h
 replace H := Option.bind_eq_some_iff.mp H
 obtain ⟨⟨t555, t556, t557, t560, t561⟩, A40, H⟩ := H
 replace H : (some (t555, t556, t557, t560, t561)) = some (r1, r2, r3, r4, r5) := H
 have A4 := Aside0.mk A40
 clear A40
 simp only [Option.some.injEq, Prod.mk.injEq] at H
 obtain ⟨rfl, rfl, rfl, rfl, rfl⟩ := H
 go_enter Tryd.func31, Tryd.ntmps31
 go_wp2_with (first | ((with_reducible refine gd 6 rfl ?_); refine bx 6 #[.int .i64 0, .int .i64 0, .slice none 0 0] 48 rfl rfl ?_; intro gb554 hg w5 hbox hb; have n_ := aC (bs hb) (aC hbox (aC (gz hg) (aE (gz hg)))); clear HB; obtain ⟨HB, BK554, GW554, GE554⟩ := n_; clear hb hbox hg) | ((with_reducible refine gf 55 rfl ?_); refine gL (some 12) rfl rfl Tryd.func55 rfl #[.slice A0 l0.length c0, .int .i64 a1, .int .i64 a2, .bool false] rfl ?_; (with_reducible refine (incunableref06_Get.calls k _ _ l0 a1 a2 false t555 t556 t557 t560 t561 _ ?side1 ?side2 A4.out).mono ?_); (case side1 => exact cU (Kd.C_below HR0.out HB.out)); (case side2 => exact HC0.out); rintro e w6 ⟨v558, rfl, ho0, hb⟩; refine ⟨_, rfl, ?_⟩; have n_ := aC (Kd.R_lower ho0 bz) (aC (blk_below (bU BK554.out) hb) (aE (bs hb))); clear BK554 HB; obtain ⟨HO559, BK554, HB⟩ := n_; (try clear hb); (try clear ho0); obtain ⟨hcz7_0, hcz7_1, hcz7_2, hfz7_0, hfz7_1, hfz7_2⟩ := cz3f BK554.out; obtain ⟨Ao8, co8, eo8⟩ := Kd.R_slice HO559.out; subst eo8))
 refine bodyPost_ret (results_ctt rfl _ _ gb554 48 #[.int .i64 t555, .int .i64 t556, .slice Ao8 t557.length co8] (0, 0) _ rfl (by (with_reducible repeat (first | refine blk_drewN ?_ _ | refine blk_drew ?_ | refine blk_alloc ?_ _)); refine blk_put (cs := #[.int .i64 t555, .int .i64 t556, .slice none 0 0]) ?_ 2 _ rfl; (with_reducible repeat (first | refine blk_drewN ?_ _ | refine blk_drew ?_ | refine blk_alloc ?_ _)); refine blk_put (cs := #[.int .i64 t555, .int .i64 0, .slice none 0 0]) ?_ 1 _ rfl; (with_reducible repeat (first | refine blk_drewN ?_ _ | refine blk_drew ?_ | refine blk_alloc ?_ _)); refine blk_put (cs := #[.int .i64 0, .int .i64 0, .slice none 0 0]) ?_ 0 _ rfl; (with_reducible repeat (first | refine blk_drewN ?_ _ | refine blk_drew ?_ | refine blk_alloc ?_ _)); exact BK554.out) Tryd.underlying48 rfl (by kernel_rfl)) rfl ?_
 exact ⟨_, re, rU (Kd.R_mono (Kd.R_far (p := ⟨gb554, 2, none⟩) (Kd.R_far (p := ⟨gb554, 1, none⟩) (Kd.R_far (p := ⟨gb554, 0, none⟩) (Kd.R_types HO559.out BK554.out (by decide)) (fun _ hk => hk.2) (.int .i64 t555)) (fun _ hk => hk.2) (.int .i64 t556)) (fun _ hk => hk.2) (.slice Ao8 t557.length co8)) (fun _ hk => trivial)), bl⟩

/-! ### incunableref06_SameBitmap: function 32 -/
mutual
def incunableref06_SameBitmap.j0 : Nat → Bool → Int → Int → List Int → Int → Int → List Int → Option (Bool)
 | 0, _, _, _, _, _, _, _ => none
 | k + 1, x26, x563000, x563001, x563002, x564000, x564001, x564002 => if x26 = true then (some false) else (incunableref06_SameBitmap.l0 k (x563002.length : Int) 0 x563000 x563001 x563002 x564000 x564001 x564002)
def incunableref06_SameBitmap.l0 : Nat → Int → Int → Int → Int → List Int → Int → Int → List Int → Option (Bool)
 | 0, _, _, _, _, _, _, _, _ => none
 | k + 1, x29, x30, x563000, x563001, x563002, x564000, x564001, x564002 => if x30 < x29 then (if 0 ≤ x30 then (if x30 < (x563002.length : Int) then (if x30 < (x564002.length : Int) then (if (rd x563002 x30) = (rd x564002 x30) then (incunableref06_SameBitmap.l0 k x29 (wrap64 (x30 + 1)) x563000 x563001 x563002 x564000 x564001 x564002) else (some false)) else (none)) else (none)) else (none)) else (some true)
end
def incunableref06_SameBitmap.f (k : Nat) (a0_0 : Int) (a0_1 : Int) (l0_2 : List Int) (a1_0 : Int) (a1_1 : Int) (l1_2 : List Int) : Option (Bool) := if a0_0 = a1_0 then (if a0_1 = a1_1 then (incunableref06_SameBitmap.j0 k ((l0_2.length : Int) != (l1_2.length : Int)) a0_0 a0_1 l0_2 a1_0 a1_1 l1_2) else (incunableref06_SameBitmap.j0 k true a0_0 a0_1 l0_2 a1_0 a1_1 l1_2)) else (incunableref06_SameBitmap.j0 k true a0_0 a0_1 l0_2 a1_0 a1_1 l1_2)
theorem incunableref06_SameBitmap.mono_l : ∀ k, (∀ y0 y1 y2 y3 y4 y5 y6, LeO (incunableref06_SameBitmap.j0 k y0 y1 y2 y3 y4 y5 y6) (incunableref06_SameBitmap.j0 (k + 1) y0 y1 y2 y3 y4 y5 y6)) ∧ (∀ y0 y1 y2 y3 y4 y5 y6 y7, LeO (incunableref06_SameBitmap.l0 k y0 y1 y2 y3 y4 y5 y6 y7) (incunableref06_SameBitmap.l0 (k + 1) y0 y1 y2 y3 y4 y5 y6 y7))
 | 0 => ⟨fun _ _ _ _ _ _ _ r h => by simp [incunableref06_SameBitmap.j0] at h, fun _ _ _ _ _ _ _ _ r h => by simp [incunableref06_SameBitmap.l0] at h⟩
 | k + 1 => by
  obtain ⟨ih0, ih1⟩ := incunableref06_SameBitmap.mono_l k
  refine ⟨?_, ?_⟩
  ·intro y0 y1 y2 y3 y4 y5 y6
   unfold incunableref06_SameBitmap.j0
   repeat' first
   | (with_reducible exact ih0 _ _ _ _ _ _ _)
   | (with_reducible exact ih1 _ _ _ _ _ _ _ _)
   | (with_reducible first | exact LeO.refl _ | exact LeO.none _ | refine LeO.ite ?_ ?_ | refine LeO.bind ?_ (fun _ => ?_))
   | exact ih0 _ _ _ _ _ _ _
   | exact ih1 _ _ _ _ _ _ _ _
   | exact LeO.none _ | refine LeO.ite ?_ ?_ | refine LeO.bind ?_ (fun _ => ?_)
  ·intro y0 y1 y2 y3 y4 y5 y6 y7
   unfold incunableref06_SameBitmap.l0
   repeat' first
   | (with_reducible exact ih0 _ _ _ _ _ _ _)
   | (with_reducible exact ih1 _ _ _ _ _ _ _ _)
   | (with_reducible first | exact LeO.refl _ | exact LeO.none _ | refine LeO.ite ?_ ?_ | refine LeO.bind ?_ (fun _ => ?_))
   | exact ih0 _ _ _ _ _ _ _
   | exact ih1 _ _ _ _ _ _ _ _
   | exact LeO.none _ | refine LeO.ite ?_ ?_ | refine LeO.bind ?_ (fun _ => ?_)
theorem incunableref06_SameBitmap.mono : ∀ a0 a1 a2 a3 a4 a5 k, LeO (incunableref06_SameBitmap.f k a0 a1 a2 a3 a4 a5) (incunableref06_SameBitmap.f (k + 1) a0 a1 a2 a3 a4 a5) := by
 intro a0 a1 a2 a3 a4 a5 k
 obtain ⟨ih0, ih1⟩ := incunableref06_SameBitmap.mono_l k
 unfold incunableref06_SameBitmap.f
 repeat' first
   | (with_reducible exact ih0 _ _ _ _ _ _ _)
   | (with_reducible exact ih1 _ _ _ _ _ _ _ _)
   | (with_reducible first | exact LeO.refl _ | exact LeO.none _ | refine LeO.ite ?_ ?_ | refine LeO.bind ?_ (fun _ => ?_))
   | exact ih0 _ _ _ _ _ _ _
   | exact ih1 _ _ _ _ _ _ _ _
   | exact LeO.none _ | refine LeO.ite ?_ ?_ | refine LeO.bind ?_ (fun _ => ?_)
set_option maxHeartbeats 8000000 in
set_option maxRecDepth 100000 in
theorem incunableref06_SameBitmap.calls (k : Nat) (a0_0 : Int) (a0_1 : Int) (A0_2 : Option Addr) (c0_2 : Nat) (l0_2 : List Int) (a1_0 : Int) (a1_1 : Int) (A1_2 : Option Addr) (c1_2 : Nat) (l1_2 : List Int) (r : Bool) (w : World) (hr0_2 : Kd.C (Kd.int .u8) w A0_2 l0_2.length l0_2) (hc0_2 : l0_2.length ≤ c0_2) (hr1_2 : Kd.C (Kd.int .u8) w A1_2 l1_2.length l1_2) (hc1_2 : l1_2.length ≤ c1_2) (h : incunableref06_SameBitmap.f k a0_0 a0_1 l0_2 a1_0 a1_1 l1_2 = some r) :
  Calls Tryd.prog 32 #[.agg #[.int .i64 a0_0, .int .i64 a0_1, .slice A0_2 l0_2.length c0_2], .agg #[.int .i64 a1_0, .int .i64 a1_1, .slice A1_2 l1_2.length c1_2]] w fun e w' => e = .returned (.bool r) ∧ Below w.heap.size w w' := by
 have hu48 := Tryd.underlying48
 have HR0_2 := Aside0.mk hr0_2
 have HC0_2 := Aside0.mk hc0_2
 clear hr0_2 hc0_2
 have HR1_2 := Aside0.mk hr1_2
 have HC1_2 := Aside0.mk hc1_2
 clear hr1_2 hc1_2
 have HB := Aside0.mk (Below.refl w.heap.size w)
 have H : (if a0_0 = a1_0 then (if a0_1 = a1_1 then (incunableref06_SameBitmap.j0 k ((l0_2.length : Int) != (l1_2.length : Int)) a0_0 a0_1 l0_2 a1_0 a1_1 l1_2) else (incunableref06_SameBitmap.j0 k true a0_0 a0_1 l0_2 a1_0 a1_1 l1_2)) else (incunableref06_SameBitmap.j0 k true a0_0 a0_1 l0_2 a1_0 a1_1 l1_2)) = some r := h
 clear h
 have HC3 := Aside0.mk H
 clear H
 go_enter Tryd.func32, Tryd.ntmps32
 go_upto_region 1 with (first | ((with_reducible refine gd 2 rfl ?_); (try (refine gate_guard (by rfl) ?_; dsimp only)); refine bx 2 #[.int .i64 a0_0, .int .i64 a0_1, .slice A0_2 l0_2.length c0_2] 48 rfl rfl ?_; intro gb562 hg w4 hbox hb; have n_ := aC (bs hb) (aC hbox (aC (gz hg) (aE (gz hg)))); clear HB; obtain ⟨HB, BK562, GW562, GE562⟩ := n_; clear hb hbox hg) | ((with_reducible refine gd 3 rfl ?_); (try (refine gate_guard (by rfl) ?_; dsimp only)); refine bx 3 #[.int .i64 a1_0, .int .i64 a1_1, .slice A1_2 l1_2.length c1_2] 48 rfl rfl ?_; intro gb563 hg w5 hbox hb; have n_ := aC (blk_below (bU BK562.out) hb) (aC (bs hb) (aC hbox (aC (gz hg) (aC (gz hg) (aC (gn hg (bU BK562.out)) (aE (gm hg (bU BK562.out)))))))); clear BK562 HB; obtain ⟨BK562, HB, BK563, GW563, GE563, NB562_563, NB563_562⟩ := n_; clear hb hbox hg))
 (try simp only [Act.put, List.setIfInBounds_toArray, List.set_cons_zero, List.set_cons_succ])
 go_cut [26] (fun v26 wc => ∃ (kq : Nat) (x26_2 : Bool), v26 = .bool x26_2 ∧ Aside0 (incunableref06_SameBitmap.j0 kq x26_2 a0_0 a0_1 l0_2 a1_0 a1_1 l1_2 = some r) ∧ Aside0 (kq ≤ k) ∧ Aside0 (wc.heap[gb562]? = some (.cells #[.int .i64 a0_0, .int .i64 a0_1, (.slice A0_2 l0_2.length c0_2)] 48 (0, 0))) ∧ Aside0 (wc.heap[gb563]? = some (.cells #[.int .i64 a1_0, .int .i64 a1_1, (.slice A1_2 l1_2.length c1_2)] 48 (0, 0))) ∧ Aside0 (Below w.heap.size w wc))
 case first =>
  have H := HC3.out
  clear HC3
  by_cases c6 : a0_0 = a1_0
  ·rw [if_pos c6] at H
   have c6b0 := beq_iff_eq.mpr c6
   have c6b1 := bne_eq_false_iff_eq.mpr c6
   clear c6
   (first | rw [c6b0] | (simp only [i64_w, i32_w]; rw [c6b0]) | skip)
   by_cases c7 : a0_1 = a1_1
   ·rw [if_pos c7] at H
    have c7b0 := beq_iff_eq.mpr c7
    have c7b1 := bne_eq_false_iff_eq.mpr c7
    clear c7
    have H' := Aside0.mk H
    clear H
    have hnb8 := NB562_563.out
    have hnc8 := NB563_562.out
    obtain ⟨hcz9_0, hcz9_1, hcz9_2, hfz9_0, hfz9_1, hfz9_2⟩ := cz3f BK562.out
    obtain ⟨hcz10_0, hcz10_1, hcz10_2, hfz10_0, hfz10_1, hfz10_2⟩ := cz3f BK563.out
    go_wp2
    go_meet
    case rel => exact ⟨_, (((l0_2.length : Int) != (l1_2.length : Int))), rq, H', ⟨by first | omega | exact Nat.le_refl _⟩, ⟨bU BK562.out⟩, ⟨bU BK563.out⟩, ⟨bl⟩⟩
   ·rw [if_neg c7] at H
    have c7b0 := beq_eq_false_iff_ne.mpr c7
    have c7b1 := bne_iff_ne.mpr c7
    have H' := Aside0.mk H
    clear H
    have hnb11 := NB562_563.out
    have hnc11 := NB563_562.out
    obtain ⟨hcz12_0, hcz12_1, hcz12_2, hfz12_0, hfz12_1, hfz12_2⟩ := cz3f BK562.out
    obtain ⟨hcz13_0, hcz13_1, hcz13_2, hfz13_0, hfz13_1, hfz13_2⟩ := cz3f BK563.out
    go_wp2
    go_meet
    case rel => exact ⟨_, (true), rq, H', ⟨by first | omega | exact Nat.le_refl _⟩, ⟨bU BK562.out⟩, ⟨bU BK563.out⟩, ⟨bl⟩⟩
  ·rw [if_neg c6] at H
   have c6b0 := beq_eq_false_iff_ne.mpr c6
   have c6b1 := bne_iff_ne.mpr c6
   (first | rw [c6b0] | (simp only [i64_w, i32_w]; rw [c6b0]) | skip)
   have H' := Aside0.mk H
   clear H
   have hnb14 := NB562_563.out
   have hnc14 := NB563_562.out
   obtain ⟨hcz15_0, hcz15_1, hcz15_2, hfz15_0, hfz15_1, hfz15_2⟩ := cz3f BK562.out
   obtain ⟨hcz16_0, hcz16_1, hcz16_2, hfz16_0, hfz16_1, hfz16_2⟩ := cz3f BK563.out
   go_wp2
   go_meet
   case rel => exact ⟨_, (true), rq, H', ⟨by first | omega | exact Nat.le_refl _⟩, ⟨bU BK562.out⟩, ⟨bU BK563.out⟩, ⟨bl⟩⟩
 case rest =>
  clear HC3
  obtain ⟨kq, x26_2, rfl, HA, HJ2, BK562, BK563, HB⟩ := hcut
  cases kq with
  | zero => exact absurd HA.out (by simp [incunableref06_SameBitmap.j0])
  | succ kj2 =>
   have H := HA.out
   clear HA
   simp only [incunableref06_SameBitmap.j0] at H
   by_cases c17 : x26_2 = true
   ·subst c17
    have H1 : (some false) = some r := by rw [if_pos rfl] at H; exact H
    clear H
    have H := H1
    clear H1
    obtain rfl := Option.some.inj H
    go_wp2
    go_ret
    exact ⟨re, bl⟩
   ·replace c17 := Bool.eq_false_iff.mpr c17
    subst c17
    have H1 : (incunableref06_SameBitmap.l0 kj2 (l0_2.length : Int) 0 a0_0 a0_1 l0_2 a1_0 a1_1 l1_2) = some r := by rw [if_neg (show ¬ (false = true) by decide)] at H; exact H
    clear H
    have H := H1
    clear H1
    have H' := Aside0.mk H
    clear H
    have hnb18 := NB562_563.out
    have hnc18 := NB563_562.out
    obtain ⟨hcz19_0, hcz19_1, hcz19_2, hfz19_0, hfz19_1, hfz19_2⟩ := cz3f BK562.out
    go_wp2
    go_loopg [30] kj2 (fun kq v30 w' => ∃ (x30_2 : Int), v30 = .int .i64 x30_2 ∧ Aside0 (incunableref06_SameBitmap.l0 kq (l0_2.length : Int) x30_2 a0_0 a0_1 l0_2 a1_0 a1_1 l1_2 = some r) ∧ Aside0 (kq ≤ kj2) ∧ Aside0 (w'.heap[gb562]? = some (.cells #[.int .i64 a0_0, .int .i64 a0_1, (.slice A0_2 l0_2.length c0_2)] 48 (0, 0))) ∧ Aside0 (w'.heap[gb563]? = some (.cells #[.int .i64 a1_0, .int .i64 a1_1, (.slice A1_2 l1_2.length c1_2)] 48 (0, 0))) ∧ Aside0 (Below w.heap.size w w'))
    case atStart => exact ⟨(0), rq, H', ⟨Nat.le_refl _⟩, ⟨bU BK562.out⟩, ⟨bU BK563.out⟩, ⟨bl⟩⟩
    case round =>
     clear H'
     obtain ⟨x30_2, rfl, HA, HK2, BK562, BK563, HB⟩ := hrel
     cases gk with
     | zero => exact absurd HA.out (by simp [incunableref06_SameBitmap.l0])
     | succ k2 =>
      have H := HA.out
      clear HA
      simp only [incunableref06_SameBitmap.l0] at H
      by_cases c20 : x30_2 < (l0_2.length : Int)
      ·rw [if_pos c20] at H
       have c20b0 := decide_eq_true c20
       clear c20
       by_cases c21 : 0 ≤ x30_2
       ·rw [if_pos c21] at H
        have c21b0 := decide_eq_true c21
        clear c21
        by_cases c22 : x30_2 < (l0_2.length : Int)
        ·rw [if_pos c22] at H
         have c22b0 := decide_eq_true c22
         clear c22
         by_cases c23 : x30_2 < (l1_2.length : Int)
         ·rw [if_pos c23] at H
          have c23b0 := decide_eq_true c23
          clear c23
          by_cases c24 : (rd l0_2 x30_2) = (rd l1_2 x30_2)
          ·rw [if_pos c24] at H
           have c24b0 := beq_iff_eq.mpr c24
           have c24b1 := bne_eq_false_iff_eq.mpr c24
           clear c24
           have H' := Aside0.mk H
           clear H
           have hnb25 := NB562_563.out
           have hnc25 := NB563_562.out
           obtain ⟨hcz26_0, hcz26_1, hcz26_2, hfz26_0, hfz26_1, hfz26_2⟩ := cz3f BK562.out
           have p564 : 0 ≤ (x30_2 : Int) := dt
           have q564 : x30_2 < (l0_2.length : Int) := dt
           obtain ⟨ad564, e564, hx564_0⟩ := Kd.at_int HR0_2.out x30_2 p564 q564
           cases e564
           replace hx564_0 := hcB HB.out hx564_0
           replace p564 := eq_true p564
           replace q564 := eq_true q564
           obtain ⟨hcz27_0, hcz27_1, hcz27_2, hfz27_0, hfz27_1, hfz27_2⟩ := cz3f BK563.out
           have p565 : 0 ≤ (x30_2 : Int) := dt
           have q565 : x30_2 < (l1_2.length : Int) := dt
           obtain ⟨ad565, e565, hx565_0⟩ := Kd.at_int HR1_2.out x30_2 p565 q565
           cases e565
           replace hx565_0 := hcB HB.out hx565_0
           replace p565 := eq_true p565
           replace q565 := eq_true q565
           go_wp2
           repeat (go_quiet (fail); try go_wp2)
           go_roundg k2
           case measure => have := HJ2.out; have := HK2.out; omega
           case rel => exact ⟨(wrap64 (x30_2 + 1)), rq, H', ⟨by have := HJ2.out; have := HK2.out; omega⟩, ⟨bU BK562.out⟩, ⟨bU BK563.out⟩, ⟨bl⟩⟩
          ·rw [if_neg c24] at H
           have c24b0 := beq_eq_false_iff_ne.mpr c24
           have c24b1 := bne_iff_ne.mpr c24
           obtain rfl := Option.some.inj H
           have hnb28 := NB562_563.out
           have hnc28 := NB563_562.out
           obtain ⟨hcz29_0, hcz29_1, hcz29_2, hfz29_0, hfz29_1, hfz29_2⟩ := cz3f BK562.out
           have p564 : 0 ≤ (x30_2 : Int) := dt
           have q564 : x30_2 < (l0_2.length : Int) := dt
           obtain ⟨ad564, e564, hx564_0⟩ := Kd.at_int HR0_2.out x30_2 p564 q564
           cases e564
           replace hx564_0 := hcB HB.out hx564_0
           replace p564 := eq_true p564
           replace q564 := eq_true q564
           obtain ⟨hcz30_0, hcz30_1, hcz30_2, hfz30_0, hfz30_1, hfz30_2⟩ := cz3f BK563.out
           have p565 : 0 ≤ (x30_2 : Int) := dt
           have q565 : x30_2 < (l1_2.length : Int) := dt
           obtain ⟨ad565, e565, hx565_0⟩ := Kd.at_int HR1_2.out x30_2 p565 q565
           cases e565
           replace hx565_0 := hcB HB.out hx565_0
           replace p565 := eq_true p565
           replace q565 := eq_true q565
           go_wp2
           repeat (go_quiet (fail); try go_wp2)
           go_ret
           exact ⟨re, bl⟩
         ·rw [if_neg c23] at H
          exact absurd H (by simp)
        ·rw [if_neg c22] at H
         exact absurd H (by simp)
       ·rw [if_neg c21] at H
        exact absurd H (by simp)
      ·rw [if_neg c20] at H
       have c20b0 := decide_eq_false c20
       clear c20
       obtain rfl := Option.some.inj H
       go_wp2
       go_ret
       exact ⟨re, bl⟩

/-! ### incunablelaw06_RunsGetOne: function 8 -/
def incunablelaw06_RunsGetOne.f (k : Nat) (l0 : List Int) (a1 : Int) (a2 : Int) : Option (Bool) := if (l0.length : Int) > 100000 then ((incunablelaw06_Awake.f k).bind fun t566 => (some t566)) else ((runs_GetOne.f k l0 a1 a2).bind fun bt567 => ((incunableref06_GetOne.f k l0 a1 a2).bind fun bt575 => (if bt567.2.2.2.2 = bt575.2.2.2.2 then (if bt567.2.2.2.1 = bt575.2.2.2.1 then ((incunableref06_SameBitmap.f k bt567.1 bt567.2.1 bt567.2.2.1 bt575.1 bt575.2.1 bt575.2.2.1).bind fun t583 => (if t583 = true then ((incunablelaw06_Awake.f k).bind fun t584 => (some t584)) else (some false))) else (some false)) else (some false))))
theorem incunablelaw06_RunsGetOne.mono : ∀ a0 a1 a2 k, LeO (incunablelaw06_RunsGetOne.f k a0 a1 a2) (incunablelaw06_RunsGetOne.f (k + 1) a0 a1 a2) := by
 intro a0 a1 a2 k
 unfold incunablelaw06_RunsGetOne.f
 repeat' first
   | (with_reducible exact incunablelaw06_Awake.mono _)
   | (with_reducible exact incunableref06_GetOne.mono _ _ _ _)
   | (with_reducible exact incunableref06_SameBitmap.mono _ _ _ _ _ _ _)
   | (with_reducible exact runs_GetOne.mono _ _ _ _)
   | (with_reducible first | exact LeO.refl _ | exact LeO.none _ | refine LeO.ite ?_ ?_ | refine LeO.bind ?_ (fun _ => ?_))
   | exact incunablelaw06_Awake.mono _
   | exact incunableref06_GetOne.mono _ _ _ _
   | exact incunableref06_SameBitmap.mono _ _ _ _ _ _ _
   | exact runs_GetOne.mono _ _ _ _
   | exact LeO.none _ | refine LeO.ite ?_ ?_ | refine LeO.bind ?_ (fun _ => ?_)
set_option maxHeartbeats 8000000 in
set_option maxRecDepth 100000 in
theorem incunablelaw06_RunsGetOne.calls (k : Nat) (A0 : Option Addr) (c0 : Nat) (l0 : List Int) (a1 : Int) (a2 : Int) (r : Bool) (w : World) (hT0 : TIs w) (hr0 : Kd.C (Kd.int .u8) w A0 l0.length l0) (hc0 : l0.length ≤ c0) (h : incunablelaw06_RunsGetOne.f k l0 a1 a2 = some r) (hr_ : r = true) :
  Calls Tryd.prog 8 #[.slice A0 l0.length c0, .int .i64 a1, .int .i64 a2] w fun e w' => e = .returned (.bool r) ∧ Below w.heap.size w w' := by
 have HTI := Aside0.mk hT0
 clear hT0
 have HR_ := Aside0.mk hr_
 clear hr_
 have hu48 := Tryd.underlying48
 have HR0 := Aside0.mk hr0
 have HC0 := Aside0.mk hc0
 clear hr0 hc0
 have HB := Aside0.mk (Below.refl w.heap.size w)
 have H : (if (l0.length : Int) > 100000 then ((incunablelaw06_Awake.f k).bind fun t566 => (some t566)) else ((runs_GetOne.f k l0 a1 a2).bind fun bt567 => ((incunableref06_GetOne.f k l0 a1 a2).bind fun bt575 => (if bt567.2.2.2.2 = bt575.2.2.2.2 then (if bt567.2.2.2.1 = bt575.2.2.2.1 then ((incunableref06_SameBitmap.f k bt567.1 bt567.2.1 bt567.2.2.1 bt575.1 bt575.2.1 bt575.2.2.1).bind fun t583 => (if t583 = true then ((incunablelaw06_Awake.f k).bind fun t584 => (some t584)) else (some false))) else (some false)) else (some false))))) = some r := h
 clear h
 by_cases c4 : (l0.length : Int) > 100000
 ·rw [if_pos c4] at H
  have c4b0 := decide_eq_true c4
  have c4b1 : decide (100000 < l0.length) = true := decide_eq_true (by omega)
  clear c4
  replace H := Option.bind_eq_some_iff.mp H
  obtain ⟨t566, A50, H⟩ := H
  replace H : (some t566) = some r := H
  have A5 := Aside0.mk A50
  clear A50
  obtain rfl := Option.some.inj H
  go_enter Tryd.func8, Tryd.ntmps8
  go_wp2_with (first | ((with_reducible refine gf 13 rfl ?_); refine gL (some 16) rfl rfl Tryd.func13 rfl #[] rfl ?_; (with_reducible refine (incunablelaw06_Awake.calls k  t566 _ (TIs.on HTI) A5.out).mono ?_); rintro e w6 ⟨rfl, hb⟩; refine ⟨_, rfl, ?_⟩; have n_ := aE (bs hb); clear HB; have HB := n_; clear n_; (try clear hb)))
  go_ret
  exact ⟨re, bl⟩
 ·rw [if_neg c4] at H
  have c4b0 := decide_eq_false c4
  have c4b1 : decide (100000 < l0.length) = false := decide_eq_false (by omega)
  clear c4
  replace H := Option.bind_eq_some_iff.mp H
  obtain ⟨⟨t567, t568, t569, t572, t573⟩, A70, H⟩ := H
  replace H : ((incunableref06_GetOne.f k l0 a1 a2).bind fun bt575 => (if t573 = bt575.2.2.2.2 then (if t572 = bt575.2.2.2.1 then ((incunableref06_SameBitmap.f k t567 t568 t569 bt575.1 bt575.2.1 bt575.2.2.1).bind fun t583 => (if t583 = true then ((incunablelaw06_Awake.f k).bind fun t584 => (some t584)) else (some false))) else (some false)) else (some false))) = some r := H
  have A7 := Aside0.mk A70
  clear A70
  replace H := Option.bind_eq_some_iff.mp H
  obtain ⟨⟨t575, t576, t577, t580, t581⟩, A80, H⟩ := H
  replace H : (if t573 = t581 then (if t572 = t580 then ((incunableref06_SameBitmap.f k t567 t568 t569 t575 t576 t577).bind fun t583 => (if t583 = true then ((incunablelaw06_Awake.f k).bind fun t584 => (some t584)) else (some false))) else (some false)) else (some false)) = some r := H
  have A8 := Aside0.mk A80
  clear A80
  by_cases c9 : t573 = t581
  ·rw [if_pos c9] at H
   have c9b0 := beq_iff_eq.mpr c9
   have c9b1 := bne_eq_false_iff_eq.mpr c9
   clear c9
   by_cases c10 : t572 = t580
   ·rw [if_pos c10] at H
    have c10b0 := beq_iff_eq.mpr c10
    have c10b1 := bne_eq_false_iff_eq.mpr c10
    clear c10
    replace H := Option.bind_eq_some_iff.mp H
    obtain ⟨t583, A110, H⟩ := H
    replace H : (if t583 = true then ((incunablelaw06_Awake.f k).bind fun t584 => (some t584)) else (some false)) = some r := H
    have A11 := Aside0.mk A110
    clear A110
    by_cases c12 : t583 = true
    ·subst c12
     have H1 : ((incunablelaw06_Awake.f k).bind fun t584 => (some t584)) = some r := by rw [if_pos rfl] at H; exact H
     clear H
     have H := H1
     clear H1
     replace H := Option.bind_eq_some_iff.mp H
     obtain ⟨t584, A130, H⟩ := H
     replace H : (some t584) = some r := H
     have A13 := Aside0.mk A130
     clear A130
     obtain rfl := Option.some.inj H
     go_enter Tryd.func8, Tryd.ntmps8
     go_wp2_with (first | ((with_reducible refine gf 30 rfl ?_); refine gL (some 21) rfl rfl Tryd.func30 rfl #[.slice A0 l0.length c0, .int .i64 a1, .int .i64 a2] rfl ?_; (with_reducible refine (runs_GetOne.calls k _ _ l0 a1 a2 t567 t568 t569 t572 t573 _ ?side1 ?side2 A7.out).mono ?_); (case side1 => exact cU HR0.out); (case side2 => exact HC0.out); rintro e w14 ⟨v570, rfl, ho0, hb⟩; refine ⟨_, rfl, ?_⟩; have n_ := aC (Kd.R_lower ho0 bz) (aE (bs hb)); clear HB; obtain ⟨HO571, HB⟩ := n_; (try clear hb); (try clear ho0)) | ((with_reducible refine gd 7 rfl ?_); refine bx 7 #[.int .i64 0, .int .i64 0, .slice none 0 0] 48 rfl rfl ?_; intro gb574 hg w15 hbox hb; have n_ := aC (Kd.R_below (rU HO571.out) hb) (aC (bs hb) (aC hbox (aC (gz hg) (aE (gz hg))))); clear HO571 HB; obtain ⟨HO571, HB, BK574, GW574, GE574⟩ := n_; clear hb hbox hg; obtain ⟨hcz16_0, hcz16_1, hcz16_2, hfz16_0, hfz16_1, hfz16_2⟩ := cz3f BK574.out; obtain ⟨Ao17, co17, eo17⟩ := Kd.R_slice HO571.out; subst eo17) | ((with_reducible refine gf 31 rfl ?_); refine gL (some 29) rfl rfl Tryd.func31 rfl #[.slice A0 l0.length c0, .int .i64 a1, .int .i64 a2] rfl ?_; (with_reducible refine (incunableref06_GetOne.calls k _ _ l0 a1 a2 t575 t576 t577 t580 t581 _ ?side1 ?side2 A8.out).mono ?_); (case side1 => exact Kd.C_below HR0.out bl); (case side2 => exact HC0.out); rintro e w18 ⟨v578, rfl, ho0, hb⟩; refine ⟨_, rfl, ?_⟩; have n_ := aC (Kd.R_elder' (rU (Kd.R_mono (Kd.R_far (p := ⟨gb574, 2, none⟩) (Kd.R_far (p := ⟨gb574, 1, none⟩) (Kd.R_far (p := ⟨gb574, 0, none⟩) (Kd.R_types HO571.out BK574.out (by decide)) (fun _ hk => hk.2) (.int .i64 t567)) (fun _ hk => hk.2) (.int .i64 t568)) (fun _ hk => hk.2) (.slice Ao17 t569.length co17)) (fun _ h_ => h_.1))) (Kd.R_base ho0) hb) (aC (Kd.R_lower (Kd.R_new' ho0 (Kd.R_lt (rU (Kd.R_mono (Kd.R_far (p := ⟨gb574, 2, none⟩) (Kd.R_far (p := ⟨gb574, 1, none⟩) (Kd.R_far (p := ⟨gb574, 0, none⟩) (Kd.R_types HO571.out BK574.out (by decide)) (fun _ hk => hk.2) (.int .i64 t567)) (fun _ hk => hk.2) (.int .i64 t568)) (fun _ hk => hk.2) (.slice Ao17 t569.length co17)) (fun _ h_ => h_.1))))) bz) (aC (blk_below (g := gb574) (o := .cells #[.int .i64 t567, .int .i64 t568, .slice Ao17 t569.length co17] 48 (0, 0)) (by (with_reducible repeat (first | refine blk_drewN ?_ _ | refine blk_drew ?_ | refine blk_alloc ?_ _)); refine blk_put (cs := #[.int .i64 t567, .int .i64 t568, .slice none 0 0]) ?_ 2 _ rfl; (with_reducible repeat (first | refine blk_drewN ?_ _ | refine blk_drew ?_ | refine blk_alloc ?_ _)); refine blk_put (cs := #[.int .i64 t567, .int .i64 0, .slice none 0 0]) ?_ 1 _ rfl; (with_reducible repeat (first | refine blk_drewN ?_ _ | refine blk_drew ?_ | refine blk_alloc ?_ _)); refine blk_put (cs := #[.int .i64 0, .int .i64 0, .slice none 0 0]) ?_ 0 _ rfl; (with_reducible repeat (first | refine blk_drewN ?_ _ | refine blk_drew ?_ | refine blk_alloc ?_ _)); exact BK574.out) hb) (aE (bs hb)))); clear HO571 BK574 HB; obtain ⟨HO571, HO579, BK574, HB⟩ := n_; (try clear hb); (try clear ho0)) | ((with_reducible refine gd 10 rfl ?_); refine bx 10 #[.int .i64 0, .int .i64 0, .slice none 0 0] 48 rfl rfl ?_; intro gb582 hg w19 hbox hb; have n_ := aC (Kd.R_below (rU HO571.out) hb) (aC (Kd.R_below (rU HO579.out) hb) (aC (blk_below (bU BK574.out) hb) (aC (bs hb) (aC hbox (aC (gz hg) (aC (gz hg) (aC (gn hg (bU BK574.out)) (aE (gm hg (bU BK574.out)))))))))); clear HO571 HO579 BK574 HB; obtain ⟨HO571, HO579, BK574, HB, BK582, GW582, GE582, NB574_582, NB582_574⟩ := n_; clear hb hbox hg; have hnb20 := NB582_574.out; have hnc20 := NB574_582.out; obtain ⟨hcz21_0, hcz21_1, hcz21_2, hfz21_0, hfz21_1, hfz21_2⟩ := cz3f BK582.out; obtain ⟨Ao22, co22, eo22⟩ := Kd.R_slice HO579.out; subst eo22; obtain ⟨hcz23_0, hcz23_1, hcz23_2, hfz23_0, hfz23_1, hfz23_2⟩ := cz3f BK574.out) | (go_at_call 32; (with_reducible refine (incunableref06_SameBitmap.calls k t567 t568 _ _ t569 t575 t576 _ _ t577 true _ ?side1 ?side2 ?side3 ?side4 A11.out).mono ?_); (case side1 => refine (Kd.R_reads' (e := 5) (base := w.heap.size) (ok := fun k_ => (True ∧ some k_ ≠ (.slice Ao22 t577.length co22 : Value).ownBlock)) (n := t569.length) (c := co17) ?_).2.2; exact (rU (Kd.R_mono (Kd.R_far (p := ⟨gb582, 2, none⟩) (Kd.R_far (p := ⟨gb582, 1, none⟩) (Kd.R_far (p := ⟨gb582, 0, none⟩) (Kd.R_types HO571.out BK582.out (by decide)) (fun _ hk => hk.2) (.int .i64 t575)) (fun _ hk => hk.2) (.int .i64 t576)) (fun _ hk => hk.2) (.slice Ao22 t577.length co22)) (fun _ h_ => h_.1)))); (case side2 => exact (Kd.R_reads' HO571.out).2.1); (case side3 => refine (Kd.R_reads' (e := 5) (base := w.heap.size) (ok := fun k_ => (True ∧ some k_ ≠ (.slice Ao17 t569.length co17 : Value).ownBlock)) (n := t577.length) (c := co22) ?_).2.2; exact (rU (Kd.R_mono (Kd.R_far (p := ⟨gb582, 2, none⟩) (Kd.R_far (p := ⟨gb582, 1, none⟩) (Kd.R_far (p := ⟨gb582, 0, none⟩) (Kd.R_types HO579.out BK582.out (by decide)) (fun _ hk => hk.2) (.int .i64 t575)) (fun _ hk => hk.2) (.int .i64 t576)) (fun _ hk => hk.2) (.slice Ao22 t577.length co22)) (fun _ h_ => h_.1)))); (case side4 => exact (Kd.R_reads' HO579.out).2.1); rintro e w24 ⟨rfl, hb⟩; have n_ := aC (Kd.R_below (rU (Kd.R_mono (Kd.R_far (p := ⟨gb582, 2, none⟩) (Kd.R_far (p := ⟨gb582, 1, none⟩) (Kd.R_far (p := ⟨gb582, 0, none⟩) (Kd.R_types HO571.out BK582.out (by decide)) (fun _ hk => hk.2) (.int .i64 t575)) (fun _ hk => hk.2) (.int .i64 t576)) (fun _ hk => hk.2) (.slice Ao22 t577.length co22)) (fun _ h_ => h_.1))) hb) (aC (Kd.R_below (rU (Kd.R_mono (Kd.R_far (p := ⟨gb582, 2, none⟩) (Kd.R_far (p := ⟨gb582, 1, none⟩) (Kd.R_far (p := ⟨gb582, 0, none⟩) (Kd.R_types HO579.out BK582.out (by decide)) (fun _ hk => hk.2) (.int .i64 t575)) (fun _ hk => hk.2) (.int .i64 t576)) (fun _ hk => hk.2) (.slice Ao22 t577.length co22)) (fun _ h_ => h_.1))) hb) (aC (blk_below (g := gb574) (o := .cells #[.int .i64 t567, .int .i64 t568, .slice Ao17 t569.length co17] 48 (0, 0)) (by (with_reducible repeat (first | refine blk_drewN ?_ _ | refine blk_drew ?_ | refine blk_alloc ?_ _)); refine blk_far ?_ NB574_582.out _; (with_reducible repeat (first | refine blk_drewN ?_ _ | refine blk_drew ?_ | refine blk_alloc ?_ _)); refine blk_far ?_ NB574_582.out _; (with_reducible repeat (first | refine blk_drewN ?_ _ | refine blk_drew ?_ | refine blk_alloc ?_ _)); refine blk_far ?_ NB574_582.out _; (with_reducible repeat (first | refine blk_drewN ?_ _ | refine blk_drew ?_ | refine blk_alloc ?_ _)); exact BK574.out) hb) (aC (blk_below (g := gb582) (o := .cells #[.int .i64 t575, .int .i64 t576, .slice Ao22 t577.length co22] 48 (0, 0)) (by (with_reducible repeat (first | refine blk_drewN ?_ _ | refine blk_drew ?_ | refine blk_alloc ?_ _)); refine blk_put (cs := #[.int .i64 t575, .int .i64 t576, .slice none 0 0]) ?_ 2 _ rfl; (with_reducible repeat (first | refine blk_drewN ?_ _ | refine blk_drew ?_ | refine blk_alloc ?_ _)); refine blk_put (cs := #[.int .i64 t575, .int .i64 0, .slice none 0 0]) ?_ 1 _ rfl; (with_reducible repeat (first | refine blk_drewN ?_ _ | refine blk_drew ?_ | refine blk_alloc ?_ _)); refine blk_put (cs := #[.int .i64 0, .int .i64 0, .slice none 0 0]) ?_ 0 _ rfl; (with_reducible repeat (first | refine blk_drewN ?_ _ | refine blk_drew ?_ | refine blk_alloc ?_ _)); exact BK582.out) hb) (aE (bs hb))))); clear HO571 HO579 BK574 BK582 HB; obtain ⟨HO571, HO579, BK574, BK582, HB⟩ := n_; (try clear hb)) | (go_at_call 13; (with_reducible refine (incunablelaw06_Awake.calls k  t584 _ (TIs.on HTI) A13.out).mono ?_); rintro e w25 ⟨rfl, hb⟩; have n_ := aC (Kd.R_below (rU HO571.out) hb) (aC (Kd.R_below (rU HO579.out) hb) (aC (blk_below (bU BK574.out) hb) (aC (blk_below (bU BK582.out) hb) (aE (bs hb))))); clear HO571 HO579 BK574 BK582 HB; obtain ⟨HO571, HO579, BK574, BK582, HB⟩ := n_; (try clear hb)))
     go_ret
     exact ⟨re, bl⟩
    ·replace c12 := Bool.eq_false_iff.mpr c12
     subst c12
     have H1 : (some false) = some r := by rw [if_neg (show ¬ (false = true) by decide)] at H; exact H
     clear H
     have H := H1
     clear H1
     exact absurd ((Option.some.inj H).trans HR_.out) (by decide)
   ·rw [if_neg c10] at H
    have c10b0 := beq_eq_false_iff_ne.mpr c10
    have c10b1 := bne_iff_ne.mpr c10
    exact absurd ((Option.some.inj H).trans HR_.out) (by decide)
  ·rw [if_neg c9] at H
   have c9b0 := beq_eq_false_iff_ne.mpr c9
   have c9b1 := bne_iff_ne.mpr c9
   exact absurd ((Option.some.inj H).trans HR_.out) (by decide)

/-- THE ONE PURE STATEMENT of incunablelaw06_RunsGetOne: yours. -/
def incunablelaw06_RunsGetOne.Pure : Prop := ∀ (l0 : List Int) (a1 : Int) (a2 : Int), (l0.length ≤ 9223372036854775807 ∧ l0.length * 1 ≤ 140737488351232 ∧ ∀ y0_ ∈ l0, (Lit.int .u8 y0_).wf = true) → ((Lit.int .i64 a1).wf = true) → ((Lit.int .i64 a2).wf = true) → ∃ k, incunablelaw06_RunsGetOne.f k l0 a1 a2 = some true
theorem incunablelaw06_RunsGetOne.walk (P : incunablelaw06_RunsGetOne.Pure) (A0 : Option Addr) (c0 : Nat) (l0 : List Int) (a1 : Int) (a2 : Int) (w : World) (hT0 : TIs w) (hr0 : Kd.C (Kd.int .u8) w A0 l0.length l0) (hc0 : l0.length ≤ c0) (g0 : l0.length ≤ 9223372036854775807 ∧ l0.length * 1 ≤ 140737488351232 ∧ ∀ y0_ ∈ l0, (Lit.int .u8 y0_).wf = true) (g1 : (Lit.int .i64 a1).wf = true) (g2 : (Lit.int .i64 a2).wf = true) :
  Calls Tryd.prog 8 #[.slice A0 l0.length c0, .int .i64 a1, .int .i64 a2] w fun e w' => e = .returned (.bool true) ∧ Below w.heap.size w w' := by
 obtain ⟨k, h⟩ := P l0 a1 a2 g0 g1 g2
 refine (incunablelaw06_RunsGetOne.calls k A0 c0 l0 a1 a2 true w hT0 hr0 hc0 h rfl).mono ?_
 rintro e w' ⟨rfl, hd⟩
 exact ⟨rfl, hd⟩

end Go.Proofs.YtknclbodinfbeaaDoor.PRunsGetOne
