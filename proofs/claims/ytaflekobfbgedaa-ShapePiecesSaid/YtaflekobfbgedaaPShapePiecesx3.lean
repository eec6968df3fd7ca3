-- Written by a program of this session (wip/tools/myprint.py) over the kit's print. Not trusted: Lean checks it.
import Derived.Test.YtaflekobfbgedaaPShapePiecesx0
import Derived.Test.YtaflekobfbgedaaPShapePiecesx1
namespace Go.Proofs.Ytaflekobfbgedaa.PShapePieces
open Go.RowKit Go.Proofs.YtaflekobfbgedaaW.PrintWords Go.Proofs.YtaflekobfbgedaaW.PrintLast Go.Proofs.YtaflekobfbgedaaW.PrintMore
attribute [local go_sem] max2_int min2_int max_two min_two max_three min_three max_four min_four   -- for this text's walks alone
set_option linter.unusedVariables false
set_option linter.unusedSimpArgs false

/-! ### bitmap_blank: function 83 -/
def bitmap_blank.f (a0 : Int) (a1 : Int) : Option (Int × Int × List Int × Int) := (bitmap_fits.f a0 a1).bind fun t123 => (if t123 = true then (if 0 ≤ (wrap64 (a0 * a1)) then (if (wrap64 (a0 * a1) : Int).toNat ≤ 281474976710656 then (some (a0, a1, (List.replicate (wrap64 (a0 * a1) : Int).toNat 0), 0)) else (none)) else (none)) else (some (0, 0, ([] : List Int), 4)))
set_option maxHeartbeats 8000000 in
set_option maxRecDepth 100000 in
theorem bitmap_blank.calls (a0 : Int) (a1 : Int) (r1 : Int) (r2 : Int) (r3 : List Int) (r4 : Int) (w : World) (h : bitmap_blank.f a0 a1 = some (r1, r2, r3, r4)) :
  Calls Try.prog 83 #[.int .i64 a0, .int .i64 a1] w fun e w' => ∃ v2_ : Value, e = .returned (.tuple #[.agg #[.int .i64 r1, .int .i64 r2, v2_], .int .i64 r4]) ∧ Kd.R (Kd.int .u8) 5 w' w.heap.size (fun _ => True) v2_ r3 ∧ Below w.heap.size w w' := by
 have hu24 := Try.underlying24
 have HB := Aside0.mk (Below.refl w.heap.size w)
 have H : ((bitmap_fits.f a0 a1).bind fun t123 => (if t123 = true then (if 0 ≤ (wrap64 (a0 * a1)) then (if (wrap64 (a0 * a1) : Int).toNat ≤ 281474976710656 then (some (a0, a1, (List.replicate (wrap64 (a0 * a1) : Int).toNat 0), 0)) else (none)) else (none)) else (some (0, 0, ([] : List Int), 4)))) = some (r1, r2, r3, r4) := h
 clear h
 replace H := Option.bind_eq_some_iff.mp H
 obtain ⟨t123, A30, H⟩ := H
 replace H : (if t123 = true then (if 0 ≤ (wrap64 (a0 * a1)) then (if (wrap64 (a0 * a1) : Int).toNat ≤ 281474976710656 then (some (a0, a1, (List.replicate (wrap64 (a0 * a1) : Int).toNat 0), 0)) else (none)) else (none)) else (some (0, 0, ([] : List Int), 4))) = some (r1, r2, r3, r4) := H
 have A3 := Aside0.mk A30
 clear A30
 by_cases c4 : t123 = true
 ·subst c4
  have H1 : (if 0 ≤ (wrap64 (a0 * a1)) then (if (wrap64 (a0 * a1) : Int).toNat ≤ 281474976710656 then (some (a0, a1, (List.replicate (wrap64 (a0 * a1) : Int).toNat 0), 0)) else (none)) else (none)) = some (r1, r2, r3, r4) := by rw [if_pos rfl] at H; exact H
  clear H
  have H := H1
  clear H1
  obtain ⟨ji5, hji5⟩ : ∃ j_ : Int, (wrap64 (a0 * a1)) = j_ := ⟨_, rfl⟩
  replace H : (if 0 ≤ (ji5) then (if (ji5 : Int).toNat ≤ 281474976710656 then (some (a0, a1, (List.replicate (ji5 : Int).toNat 0), 0)) else (none)) else (none)) = some (r1, r2, r3, r4) := by first | (rw [hji5] at H; exact H) | (simp only [hji5] at H ⊢; exact H)
  (try rw [hji5] at A3)
  have hji5w : (IntKind.i64.wrap (a0 * a1)) = ji5 := (i64_w _).trans hji5
  by_cases c6 : 0 ≤ (ji5)
  ·rw [if_pos c6] at H
   have c6b0 := eq_true c6
   have c6b1 := decide_eq_true c6
   clear c6
   by_cases c7 : (ji5 : Int).toNat ≤ 281474976710656
   ·rw [if_pos c7] at H
    have c7b0 := eq_true c7
    have c7b1 := decide_eq_true c7
    clear c7
    obtain ⟨y124, hy_⟩ : ∃ y_ : List Int, y_ = (List.replicate (ji5 : Int).toNat 0) := ⟨_, rfl⟩
    replace H : (some (a0, a1, y124, 0)) = some (r1, r2, r3, r4) := rh
    have Ny124 := aE hy_
    clear hy_
    simp only [Option.some.injEq, Prod.mk.injEq] at H
    obtain ⟨rfl, rfl, rfl, rfl⟩ := H
    go_enter Try.func83, Try.ntmps83
    go_wp2_with (first | ((with_reducible refine gd 4 rfl ?_); refine bx 4 #[.int .i64 0, .int .i64 0, .slice none 0 0] 24 rfl rfl ?_; intro gb122 hg w8 hbox hb; have n_ := aC (bs hb) (aC hbox (aC (gz hg) (aE (gz hg)))); clear HB; obtain ⟨HB, BK122, GW122, GE122⟩ := n_; clear hb hbox hg) | ((with_reducible refine gf 78 rfl ?_); refine gL (some 8) rfl rfl Try.func78 rfl #[.int .i64 a0, .int .i64 a1] rfl ?_; (with_reducible refine (bitmap_fits.calls a0 a1 true _ A3.out).mono ?_); rintro e w' ⟨rfl, ⟨nd, rfl⟩⟩; refine ⟨_, rfl, ?_⟩; (try (rw [drewN_self w8]; generalize hq_ : World.drewN w8 _ = w8; have n0_ : Aside0 (w8.heap[gb122]? = some (.cells #[.int .i64 0, .int .i64 0, .slice none 0 0] 24 (0, 0))) := ⟨by rw [← hq_]; exact (bU BK122.out)⟩; have n1_ : Aside0 (Below w.heap.size w w8) := ⟨by rw [← hq_]; exact bl⟩; clear BK122 HB hq_; have BK122 := n0_; have HB := n1_; clear n0_ n1_))) | ((with_reducible refine gd 16 rfl ?_); refine Kd.R_make (Kd.int .u8) _ 5 rfl (N := 16) rfl 22 _ _ rfl ji5 rfl rfl Try.underlying22 (.int .u8 0) 1 info5 rfl (by decide) (by omega) 0 (ok := fun _ => True) (okp := fun _ => True) rfl (fun _ hk => hk) trivial (dt) (Nat.le_trans (Nat.mul_le_mul_right _ (dt : ji5.toNat ≤ 281474976710656)) (by omega)) (Below.refl _ _) (Nat.le_refl _) ?_; intro v125 w9 ho10 hb hg_ hnew_; clear hg_ hnew_; (first | rw [← Ny124.out] at ho10 | (simp only [Int.reduceToNat] at ho10; rw [← Ny124.out] at ho10)); have n_ := aC (Kd.R_lower ho10 bz) (aC (blk_below (bU BK122.out) hb) (aE (bs hb))); clear BK122 HB; obtain ⟨HO126, BK122, HB⟩ := n_; clear hb ho10; obtain ⟨Ao11, co11, eo11⟩ := Kd.R_slice HO126.out; subst eo11; obtain ⟨hcz12_0, hcz12_1, hcz12_2, hfz12_0, hfz12_1, hfz12_2⟩ := cz3f BK122.out))
    refine bodyPost_ret (results_ct rfl _ _ gb122 24 #[.int .i64 a0, .int .i64 a1, .slice Ao11 y124.length co11] (0, 0) _ rfl (by (with_reducible repeat (first | refine blk_drewN ?_ _ | refine blk_drew ?_ | refine blk_alloc ?_ _)); refine blk_put (cs := #[.int .i64 a0, .int .i64 a1, .slice none 0 0]) ?_ 2 _ rfl; (with_reducible repeat (first | refine blk_drewN ?_ _ | refine blk_drew ?_ | refine blk_alloc ?_ _)); refine blk_put (cs := #[.int .i64 a0, .int .i64 0, .slice none 0 0]) ?_ 1 _ rfl; (with_reducible repeat (first | refine blk_drewN ?_ _ | refine blk_drew ?_ | refine blk_alloc ?_ _)); refine blk_put (cs := #[.int .i64 0, .int .i64 0, .slice none 0 0]) ?_ 0 _ rfl; (with_reducible repeat (first | refine blk_drewN ?_ _ | refine blk_drew ?_ | refine blk_alloc ?_ _)); exact BK122.out) Try.underlying24 rfl (by kernel_rfl)) rfl ?_
    exact ⟨_, by first | rfl | (simp [errW_none, errW_some] <;> rfl) | (simp only [← hji5]; first | rfl | (simp [errW_none, errW_some] <;> rfl)) | (simp [*, errW_none, errW_some] <;> rfl), rU (Kd.R_mono (Kd.R_far (p := ⟨gb122, 2, none⟩) (Kd.R_far (p := ⟨gb122, 1, none⟩) (Kd.R_far (p := ⟨gb122, 0, none⟩) (Kd.R_types HO126.out BK122.out (by decide)) (fun _ hk => hk.2) (.int .i64 a0)) (fun _ hk => hk.2) (.int .i64 a1)) (fun _ hk => hk.2) (.slice Ao11 y124.length co11)) (fun _ hk => trivial)), bl⟩
   ·rw [if_neg c7] at H
    exact absurd H (by simp)
  ·rw [if_neg c6] at H
   exact absurd H (by simp)
 ·replace c4 := Bool.eq_false_iff.mpr c4
  subst c4
  have H1 : (some (0, 0, ([] : List Int), 4)) = some (r1, r2, r3, r4) := by rw [if_neg (show ¬ (false = true) by decide)] at H; exact H
  clear H
  have H := H1
  clear H1
  simp only [Option.some.injEq, Prod.mk.injEq] at H
  obtain ⟨rfl, rfl, rfl, rfl⟩ := H
  go_enter Try.func83, Try.ntmps83
  go_wp2_with (first | ((with_reducible refine gd 4 rfl ?_); refine bx 4 #[.int .i64 0, .int .i64 0, .slice none 0 0] 24 rfl rfl ?_; intro gb122 hg w13 hbox hb; have n_ := aC (bs hb) (aC hbox (aC (gz hg) (aE (gz hg)))); clear HB; obtain ⟨HB, BK122, GW122, GE122⟩ := n_; clear hb hbox hg) | ((with_reducible refine gf 78 rfl ?_); refine gL (some 8) rfl rfl Try.func78 rfl #[.int .i64 a0, .int .i64 a1] rfl ?_; (with_reducible refine (bitmap_fits.calls a0 a1 false _ A3.out).mono ?_); rintro e w' ⟨rfl, ⟨nd, rfl⟩⟩; refine ⟨_, rfl, ?_⟩; (try (rw [drewN_self w13]; generalize hq_ : World.drewN w13 _ = w13; have n0_ : Aside0 (w13.heap[gb122]? = some (.cells #[.int .i64 0, .int .i64 0, .slice none 0 0] 24 (0, 0))) := ⟨by rw [← hq_]; exact (bU BK122.out)⟩; have n1_ : Aside0 (Below w.heap.size w w13) := ⟨by rw [← hq_]; exact bl⟩; clear BK122 HB hq_; have BK122 := n0_; have HB := n1_; clear n0_ n1_)); obtain ⟨hcz14_0, hcz14_1, hcz14_2, hfz14_0, hfz14_1, hfz14_2⟩ := cz3f BK122.out))
  refine bodyPost_ret (results_ct rfl _ _ gb122 24 #[.int .i64 0, .int .i64 0, .slice none 0 0] (0, 0) _ rfl (by (with_reducible repeat (first | refine blk_drewN ?_ _ | refine blk_drew ?_ | refine blk_alloc ?_ _)); refine blk_put (cs := #[.int .i64 0, .int .i64 0, .slice none 0 0]) ?_ 2 _ rfl; (with_reducible repeat (first | refine blk_drewN ?_ _ | refine blk_drew ?_ | refine blk_alloc ?_ _)); refine blk_put (cs := #[.int .i64 0, .int .i64 0, .slice none 0 0]) ?_ 1 _ rfl; (with_reducible repeat (first | refine blk_drewN ?_ _ | refine blk_drew ?_ | refine blk_alloc ?_ _)); refine blk_put (cs := #[.int .i64 0, .int .i64 0, .slice none 0 0]) ?_ 0 _ rfl; (with_reducible repeat (first | refine blk_drewN ?_ _ | refine blk_drew ?_ | refine blk_alloc ?_ _)); exact BK122.out) Try.underlying24 rfl (by kernel_rfl)) rfl ?_
  exact ⟨_, re, by first | exact Kd.R_nil _ _ _ _ _ | exact Kd.N_nil _ _ _ _ _ | exact Kd.V_nil _ _ _ _ _ | exact Kd.Q_nil _ _ _ _ _ | exact Kd.S_nil _ _ _ _ _, bl⟩

/-! ### bitmap_New: function 54 -/
mutual
def bitmap_New.j0 : Nat → Int → Int → Int → Bool → Option (Int × Int × List Int × Int)
 | 0, _, _, _, _ => none
 | k + 1, x0, x1, x2, x24 => if x24 = true then (some (0, 0, ([] : List Int), 2)) else ((bitmap_blank.f x0 x1).bind fun bt128 => (bitmap_New.l0 k x2 bt128.2.2.2 (bt128.2.2.1.length : Int) 0 bt128.1 bt128.2.1 bt128.2.2.1))
def bitmap_New.l0 : Nat → Int → Int → Int → Int → Int → Int → List Int → Option (Int × Int × List Int × Int)
 | 0, _, _, _, _, _, _, _ => none
 | k + 1, x2, x9, x34, x35, x135000, x135001, x135002 => if x35 < x34 then (if 0 ≤ x35 then (if x35 < (x135002.length : Int) then (bitmap_New.l0 k x2 x9 x34 (wrap64 (x35 + 1)) x135000 x135001 (x135002.set (x35 : Int).toNat ((x2) % 256))) else (none)) else (none)) else (some (x135000, x135001, x135002, x9))
end
def bitmap_New.f (k : Nat) (a0 : Int) (a1 : Int) (a2 : Int) : Option (Int × Int × List Int × Int) := if a0 < 0 then (bitmap_New.j0 k a0 a1 a2 true) else (if a1 < 0 then (bitmap_New.j0 k a0 a1 a2 true) else (if a2 = 0 then (bitmap_New.j0 k a0 a1 a2 false) else (bitmap_New.j0 k a0 a1 a2 (a2 != 1))))
theorem bitmap_New.mono_l : ∀ k, (∀ y0 y1 y2 y3, LeO (bitmap_New.j0 k y0 y1 y2 y3) (bitmap_New.j0 (k + 1) y0 y1 y2 y3)) ∧ (∀ y0 y1 y2 y3 y4 y5 y6, LeO (bitmap_New.l0 k y0 y1 y2 y3 y4 y5 y6) (bitmap_New.l0 (k + 1) y0 y1 y2 y3 y4 y5 y6))
 | 0 => ⟨fun _ _ _ _ r h => by simp [bitmap_New.j0] at h, fun _ _ _ _ _ _ _ r h => by simp [bitmap_New.l0] at h⟩
 | k + 1 => by
  obtain ⟨ih0, ih1⟩ := bitmap_New.mono_l k
  refine ⟨?_, ?_⟩
  ·intro y0 y1 y2 y3
   unfold bitmap_New.j0
   repeat' first
   | (with_reducible exact ih0 _ _ _ _)
   | (with_reducible exact ih1 _ _ _ _ _ _ _)
   | (with_reducible first | exact LeO.refl _ | exact LeO.none _ | refine LeO.ite ?_ ?_ | refine LeO.bind ?_ (fun _ => ?_))
   | exact ih0 _ _ _ _
   | exact ih1 _ _ _ _ _ _ _
   | exact LeO.none _ | refine LeO.ite ?_ ?_ | refine LeO.bind ?_ (fun _ => ?_)
  ·intro y0 y1 y2 y3 y4 y5 y6
   unfold bitmap_New.l0
   repeat' first
   | (with_reducible exact ih0 _ _ _ _)
   | (with_reducible exact ih1 _ _ _ _ _ _ _)
   | (with_reducible first | exact LeO.refl _ | exact LeO.none _ | refine LeO.ite ?_ ?_ | refine LeO.bind ?_ (fun _ => ?_))
   | exact ih0 _ _ _ _
   | exact ih1 _ _ _ _ _ _ _
   | exact LeO.none _ | refine LeO.ite ?_ ?_ | refine LeO.bind ?_ (fun _ => ?_)
theorem bitmap_New.mono : ∀ a0 a1 a2 k, LeO (bitmap_New.f k a0 a1 a2) (bitmap_New.f (k + 1) a0 a1 a2) := by
 intro a0 a1 a2 k
 obtain ⟨ih0, ih1⟩ := bitmap_New.mono_l k
 unfold bitmap_New.f
 repeat' first
   | (with_reducible exact ih0 _ _ _ _)
   | (with_reducible exact ih1 _ _ _ _ _ _ _)
   | (with_reducible first | exact LeO.refl _ | exact LeO.none _ | refine LeO.ite ?_ ?_ | refine LeO.bind ?_ (fun _ => ?_))
   | exact ih0 _ _ _ _
   | exact ih1 _ _ _ _ _ _ _
   | exact LeO.none _ | refine LeO.ite ?_ ?_ | refine LeO.bind ?_ (fun _ => ?_)
set_option maxHeartbeats 8000000 in
set_option maxRecDepth 100000 in
theorem bitmap_New.calls (k : Nat) (a0 : Int) (a1 : Int) (a2 : Int) (r1 : Int) (r2 : Int) (r3 : List Int) (r4 : Int) (w : World) (h : bitmap_New.f k a0 a1 a2 = some (r1, r2, r3, r4)) :
  Calls Try.prog 54 #[.int .i64 a0, .int .i64 a1, .int .i64 a2] w fun e w' => ∃ v2_ : Value, e = .returned (.tuple #[.agg #[.int .i64 r1, .int .i64 r2, v2_], .int .i64 r4]) ∧ Kd.R (Kd.int .u8) 5 w' w.heap.size (fun _ => True) v2_ r3 ∧ Below w.heap.size w w' := by
 have hu24 := Try.underlying24
 have HB := Aside0.mk (Below.refl w.heap.size w)
 have H : (if a0 < 0 then (bitmap_New.j0 k a0 a1 a2 true) else (if a1 < 0 then (bitmap_New.j0 k a0 a1 a2 true) else (if a2 = 0 then (bitmap_New.j0 k a0 a1 a2 false) else (bitmap_New.j0 k a0 a1 a2 (a2 != 1))))) = some (r1, r2, r3, r4) := h
 clear h
 have HC4 := Aside0.mk H
 clear H
 go_enter Try.func54, Try.ntmps54
 go_upto_region 1 with (first | ((with_reducible refine gd 6 rfl ?_); refine bx 6 #[.int .i64 0, .int .i64 0, .slice none 0 0] 24 rfl rfl ?_; intro gb127 hg w5 hbox hb; have n_ := aC (bs hb) (aC hbox (aC (gz hg) (aE (gz hg)))); clear HB; obtain ⟨HB, BK127, GW127, GE127⟩ := n_; clear hb hbox hg))
 (try simp only [Act.put, List.setIfInBounds_toArray, List.set_cons_zero, List.set_cons_succ])
 go_cut [24] (fun v24 wc => ∃ (kq : Nat) (x24_3 : Bool), v24 = .bool x24_3 ∧ Aside0 (bitmap_New.j0 kq a0 a1 a2 x24_3 = some (r1, r2, r3, r4)) ∧ Aside0 (kq ≤ k) ∧ Aside0 (wc.heap[gb127]? = some (.cells #[.int .i64 0, .int .i64 0, (.slice none 0 0)] 24 (0, 0))) ∧ Aside0 (Below w.heap.size w wc))
 case first =>
  have H := HC4.out
  clear HC4
  by_cases c6 : a0 < 0
  ·rw [if_pos c6] at H
   have c6b0 := decide_eq_true c6
   clear c6
   (first | rw [c6b0] | (simp only [i64_w, i32_w]; rw [c6b0]) | skip)
   have H' := Aside0.mk H
   clear H
   go_wp2
   go_meet
   case rel => exact ⟨_, (true), rq, H', ⟨by first | omega | exact Nat.le_refl _⟩, ⟨bU BK127.out⟩, ⟨bl⟩⟩
  ·rw [if_neg c6] at H
   have c6b0 := decide_eq_false c6
   clear c6
   (first | rw [c6b0] | (simp only [i64_w, i32_w]; rw [c6b0]) | skip)
   by_cases c7 : a1 < 0
   ·rw [if_pos c7] at H
    have c7b0 := decide_eq_true c7
    clear c7
    have H' := Aside0.mk H
    clear H
    go_wp2
    go_meet
    case rel => exact ⟨_, (true), rq, H', ⟨by first | omega | exact Nat.le_refl _⟩, ⟨bU BK127.out⟩, ⟨bl⟩⟩
   ·rw [if_neg c7] at H
    have c7b0 := decide_eq_false c7
    clear c7
    by_cases c8 : a2 = 0
    ·rw [if_pos c8] at H
     have c8b0 := beq_iff_eq.mpr c8
     have c8b1 := bne_eq_false_iff_eq.mpr c8
     clear c8
     have H' := Aside0.mk H
     clear H
     go_wp2
     go_meet
     case rel => exact ⟨_, (false), rq, H', ⟨by first | omega | exact Nat.le_refl _⟩, ⟨bU BK127.out⟩, ⟨bl⟩⟩
    ·rw [if_neg c8] at H
     have c8b0 := beq_eq_false_iff_ne.mpr c8
     have c8b1 := bne_iff_ne.mpr c8
     have H' := Aside0.mk H
     clear H
     go_wp2
     go_meet
     case rel => exact ⟨_, ((a2 != 1)), rq, H', ⟨by first | omega | exact Nat.le_refl _⟩, ⟨bU BK127.out⟩, ⟨bl⟩⟩
 case rest =>
  clear HC4
  obtain ⟨kq, x24_3, rfl, HA, HJ3, BK127, HB⟩ := hcut
  cases kq with
  | zero => exact absurd HA.out (by simp [bitmap_New.j0])
  | succ kj3 =>
   have H := HA.out
   clear HA
   simp only [bitmap_New.j0] at H
   by_cases c9 : x24_3 = true
   ·subst c9
    have H1 : (some (0, 0, ([] : List Int), 2)) = some (r1, r2, r3, r4) := by rw [if_pos rfl] at H; exact H
    clear H
    have H := H1
    clear H1
    simp only [Option.some.injEq, Prod.mk.injEq] at H
    obtain ⟨rfl, rfl, rfl, rfl⟩ := H
    obtain ⟨hcz10_0, hcz10_1, hcz10_2, hfz10_0, hfz10_1, hfz10_2⟩ := cz3f BK127.out
    go_wp2
    refine bodyPost_ret (results_ct rfl _ _ gb127 24 #[.int .i64 0, .int .i64 0, .slice none 0 0] (0, 0) _ rfl (by (with_reducible repeat (first | refine blk_drewN ?_ _ | refine blk_drew ?_ | refine blk_alloc ?_ _)); refine blk_put (cs := #[.int .i64 0, .int .i64 0, .slice none 0 0]) ?_ 2 _ rfl; (with_reducible repeat (first | refine blk_drewN ?_ _ | refine blk_drew ?_ | refine blk_alloc ?_ _)); refine blk_put (cs := #[.int .i64 0, .int .i64 0, .slice none 0 0]) ?_ 1 _ rfl; (with_reducible repeat (first | refine blk_drewN ?_ _ | refine blk_drew ?_ | refine blk_alloc ?_ _)); refine blk_put (cs := #[.int .i64 0, .int .i64 0, .slice none 0 0]) ?_ 0 _ rfl; (with_reducible repeat (first | refine blk_drewN ?_ _ | refine blk_drew ?_ | refine blk_alloc ?_ _)); exact BK127.out) Try.underlying24 rfl (by kernel_rfl)) rfl ?_
    exact ⟨_, re, by first | exact Kd.R_nil _ _ _ _ _ | exact Kd.N_nil _ _ _ _ _ | exact Kd.V_nil _ _ _ _ _ | exact Kd.Q_nil _ _ _ _ _ | exact Kd.S_nil _ _ _ _ _, bl⟩
   ·replace c9 := Bool.eq_false_iff.mpr c9
    subst c9
    have H1 : ((bitmap_blank.f a0 a1).bind fun bt128 => (bitmap_New.l0 kj3 a2 bt128.2.2.2 (bt128.2.2.1.length : Int) 0 bt128.1 bt128.2.1 bt128.2.2.1)) = some (r1, r2, r3, r4) := by rw [if_neg (show ¬ (false = true) by decide)] at H; exact H
    clear H
    have H := H1
    clear H1
    replace H := Option.bind_eq_some_iff.mp H
    obtain ⟨⟨t128, t129, t130, t133⟩, A110, H⟩ := H
    replace H : (bitmap_New.l0 kj3 a2 t133 (t130.length : Int) 0 t128 t129 t130) = some (r1, r2, r3, r4) := H
    have A11 := Aside0.mk A110
    clear A110
    have H' := Aside0.mk H
    clear H
    go_wp2_with (first | ((with_reducible refine gf 83 rfl ?_); refine gL (some 29) rfl rfl Try.func83 rfl #[.int .i64 a0, .int .i64 a1] rfl ?_; (with_reducible refine (bitmap_blank.calls a0 a1 t128 t129 t130 t133 _ A11.out).mono ?_); rintro e w12 ⟨v131, rfl, ho0, hb⟩; refine ⟨_, rfl, ?_⟩; have n_ := aC (Kd.R_lower ho0 bz) (aC (blk_below (bU BK127.out) hb) (aE (bs hb))); clear BK127 HB; obtain ⟨HO132, BK127, HB⟩ := n_; (try clear hb); (try clear ho0)) | ((with_reducible refine gd 8 rfl ?_); refine bx 8 #[.int .i64 0, .int .i64 0, .slice none 0 0] 24 rfl rfl ?_; intro gb134 hg w13 hbox hb; have n_ := aC (Kd.R_below (rU HO132.out) hb) (aC (blk_below (bU BK127.out) hb) (aC (bs hb) (aC hbox (aC (gz hg) (aC (gz hg) (aC (gn hg (bU BK127.out)) (aE (gm hg (bU BK127.out))))))))); clear HO132 BK127 HB; obtain ⟨HO132, BK127, HB, BK134, GW134, GE134, NB127_134, NB134_127⟩ := n_; clear hb hbox hg; have hnb14 := NB134_127.out; have hnc14 := NB127_134.out; obtain ⟨hcz15_0, hcz15_1, hcz15_2, hfz15_0, hfz15_1, hfz15_2⟩ := cz3f BK134.out; obtain ⟨Ao16, co16, eo16⟩ := Kd.R_slice HO132.out; subst eo16))
    go_loopg [35] kj3 (fun kq v35 w' => ∃ (x35_2 : Int) (x135002_2 : List Int) (u135002 : Value), v35 = .int .i64 x35_2 ∧ Aside0 (bitmap_New.l0 kq a2 t133 (t130.length : Int) x35_2 t128 t129 x135002_2 = some (r1, r2, r3, r4)) ∧ Aside0 (kq ≤ kj3) ∧ Aside0 (Kd.R (Kd.int .u8) 5 w' w.heap.size (fun _ => True) u135002 x135002_2) ∧ Aside0 (w'.heap[gb127]? = some (.cells #[.int .i64 0, .int .i64 0, (.slice none 0 0)] 24 (0, 0))) ∧ Aside0 (w'.heap[gb134]? = some (.cells #[.int .i64 t128, .int .i64 t129, u135002] 24 (0, 0))) ∧ Aside0 (Below w.heap.size w w'))
    case atStart => exact ⟨(0), (t130), (.slice Ao16 t130.length co16), rq, H', ⟨Nat.le_refl _⟩, ⟨rU (Kd.R_mono (Kd.R_far (p := ⟨gb134, 2, none⟩) (Kd.R_far (p := ⟨gb134, 1, none⟩) (Kd.R_far (p := ⟨gb134, 0, none⟩) (Kd.R_types HO132.out BK134.out (by decide)) (fun _ hk => hk.2) (.int .i64 t128)) (fun _ hk => hk.2) (.int .i64 t129)) (fun _ hk => hk.2) (.slice Ao16 t130.length co16)) (fun _ hk => trivial))⟩, ⟨by (with_reducible repeat (first | refine blk_drewN ?_ _ | refine blk_drew ?_ | refine blk_alloc ?_ _)); refine blk_far ?_ NB127_134.out _; (with_reducible repeat (first | refine blk_drewN ?_ _ | refine blk_drew ?_ | refine blk_alloc ?_ _)); refine blk_far ?_ NB127_134.out _; (with_reducible repeat (first | refine blk_drewN ?_ _ | refine blk_drew ?_ | refine blk_alloc ?_ _)); refine blk_far ?_ NB127_134.out _; (with_reducible repeat (first | refine blk_drewN ?_ _ | refine blk_drew ?_ | refine blk_alloc ?_ _)); exact BK127.out⟩, ⟨by (with_reducible repeat (first | refine blk_drewN ?_ _ | refine blk_drew ?_ | refine blk_alloc ?_ _)); refine blk_put (cs := #[.int .i64 t128, .int .i64 t129, .slice none 0 0]) ?_ 2 _ rfl; (with_reducible repeat (first | refine blk_drewN ?_ _ | refine blk_drew ?_ | refine blk_alloc ?_ _)); refine blk_put (cs := #[.int .i64 t128, .int .i64 0, .slice none 0 0]) ?_ 1 _ rfl; (with_reducible repeat (first | refine blk_drewN ?_ _ | refine blk_drew ?_ | refine blk_alloc ?_ _)); refine blk_put (cs := #[.int .i64 0, .int .i64 0, .slice none 0 0]) ?_ 0 _ rfl; (with_reducible repeat (first | refine blk_drewN ?_ _ | refine blk_drew ?_ | refine blk_alloc ?_ _)); exact BK134.out⟩, ⟨bl⟩⟩
    case round =>
     clear H'
     obtain ⟨x35_2, x135002_2, u135002, rfl, HA, HK2, HO_135002, BK127, BK134, HB⟩ := hrel
     cases gk with
     | zero => exact absurd HA.out (by simp [bitmap_New.l0])
     | succ k2 =>
      have H := HA.out
      clear HA
      simp only [bitmap_New.l0] at H
      by_cases c17 : x35_2 < (t130.length : Int)
      ·rw [if_pos c17] at H
       have c17b0 := decide_eq_true c17
       clear c17
       by_cases c18 : 0 ≤ x35_2
       ·rw [if_pos c18] at H
        have c18b0 := decide_eq_true c18
        clear c18
        by_cases c19 : x35_2 < (x135002_2.length : Int)
        ·rw [if_pos c19] at H
         have c19b0 := decide_eq_true c19
         clear c19
         obtain ⟨y135, hy_⟩ : ∃ y_ : List Int, y_ = (x135002_2.set (x35_2 : Int).toNat ((a2) % 256)) := ⟨_, rfl⟩
         replace H : (bitmap_New.l0 k2 a2 t133 (t130.length : Int) (wrap64 (x35_2 + 1)) t128 t129 y135) = some (r1, r2, r3, r4) := rh
         have Ny135 := aE hy_
         clear hy_
         have H' := Aside0.mk H
         clear H
         have hnb21 := NB134_127.out
         have hnc21 := NB127_134.out
         obtain ⟨hcz22_0, hcz22_1, hcz22_2, hfz22_0, hfz22_1, hfz22_2⟩ := cz3f BK134.out
         have p20 : 0 ≤ (x35_2 : Int) := dt
         have q20 : (x35_2 : Int) < ((x135002_2.length : Int) : Int) := dt
         obtain ⟨go20, co20, eo20, gb20, gl20, cl20, HG20⟩ := Kd.R_form HO_135002.out (by omega)
         (first | cases eo20 | (injection eo20 with ea_ en_ ec_; (first | subst ea_ | (injection ea_ with ea_; subst ea_)); subst ec_; clear en_))
         have GB20 := Aside0.mk gb20
         have GG20 := Aside0.mk HG20
         clear gb20 gl20 HG20
         obtain ⟨hx20_0, hf20_0⟩ := Kd.R_celln 0 HO_135002.out (x35_2 : Int) p20 q20
         replace p20 := eq_true p20
         replace q20 := eq_true q20
         have HP23 := Kd.R_putg HO_135002.out (x35_2 : Int) ((a2) % 256)
         go_wp2_with (first | ((with_reducible refine gate_store (t := 5) (p := 43) rfl ?_); refine store_event (t := 5) (p := 43) (v := ?vo_w24) (w1 := (wr.setCell ⟨go20, (x35_2 : Int).toNat, none⟩ (.int .u8 ((a2) % 256)))) ?hg ?ho ?hn ?hr ?_; (case ho => rfl); (case hg => rfl); (case hn => rfl); (case hr => first | (go_simp; done) | (go_simp; rfl)); intro w24 hw; have hg : wr.grownBy w24 (some go20) := (by rw [hw]; exact HP23.2); have hp_ : Kd.R (Kd.int .u8) 5 w24 w.heap.size (fun _ => True) (.slice (some ⟨go20, 0, none⟩) x135002_2.length co20) y135 := (by rw [hw, Ny135.out]; exact HP23.1); clear HP23; have n_ := aC hp_ (aC (blk_grown (bU BK127.out) hg (Kd.R_ne HO_135002.out BK127.out (by decide))) (aC (blk_grown (bU BK134.out) hg (Kd.R_ne HO_135002.out BK134.out (by decide))) (aE ((by rw [hw]; exact below_set (HB.out) GB20.out : Below w.heap.size w w24))))); clear HO_135002 BK127 BK134 HB; obtain ⟨HO_135002, BK127, BK134, HB⟩ := n_; clear hg hw hp_))
         go_roundg k2
         case measure => have := HJ3.out; have := HK2.out; omega
         case rel => exact ⟨(wrap64 (x35_2 + 1)), (y135), (.slice (some ⟨go20, 0, none⟩) x135002_2.length co20), rq, H', ⟨by have := HJ3.out; have := HK2.out; omega⟩, ⟨rU HO_135002.out⟩, ⟨bU BK127.out⟩, ⟨bU BK134.out⟩, ⟨bl⟩⟩
        ·rw [if_neg c19] at H
         exact absurd H (by simp)
       ·rw [if_neg c18] at H
        exact absurd H (by simp)
      ·rw [if_neg c17] at H
       have c17b0 := decide_eq_false c17
       clear c17
       simp only [Option.some.injEq, Prod.mk.injEq] at H
       obtain ⟨rfl, rfl, rfl, rfl⟩ := H
       have hnb25 := NB134_127.out
       have hnc25 := NB127_134.out
       obtain ⟨hcz26_0, hcz26_1, hcz26_2, hfz26_0, hfz26_1, hfz26_2⟩ := cz3f BK134.out
       obtain ⟨hcz27_0, hcz27_1, hcz27_2, hfz27_0, hfz27_1, hfz27_2⟩ := cz3f BK127.out
       obtain ⟨Ao28, co28, eo28⟩ := Kd.R_slice HO_135002.out
       subst eo28
       go_wp2
       refine bodyPost_ret (results_ct rfl _ _ gb127 24 #[.int .i64 t128, .int .i64 t129, .slice Ao28 x135002_2.length co28] (0, 0) _ rfl (by (with_reducible repeat (first | refine blk_drewN ?_ _ | refine blk_drew ?_ | refine blk_alloc ?_ _)); refine blk_put (cs := #[.int .i64 t128, .int .i64 t129, .slice none 0 0]) ?_ 2 _ rfl; (with_reducible repeat (first | refine blk_drewN ?_ _ | refine blk_drew ?_ | refine blk_alloc ?_ _)); refine blk_put (cs := #[.int .i64 t128, .int .i64 0, .slice none 0 0]) ?_ 1 _ rfl; (with_reducible repeat (first | refine blk_drewN ?_ _ | refine blk_drew ?_ | refine blk_alloc ?_ _)); refine blk_put (cs := #[.int .i64 0, .int .i64 0, .slice none 0 0]) ?_ 0 _ rfl; (with_reducible repeat (first | refine blk_drewN ?_ _ | refine blk_drew ?_ | refine blk_alloc ?_ _)); exact BK127.out) Try.underlying24 rfl (by kernel_rfl)) rfl ?_
       exact ⟨_, re, rU (Kd.R_mono (Kd.R_far (p := ⟨gb127, 2, none⟩) (Kd.R_far (p := ⟨gb127, 1, none⟩) (Kd.R_far (p := ⟨gb127, 0, none⟩) (Kd.R_types HO_135002.out BK127.out (by decide)) (fun _ hk => hk.2) (.int .i64 t128)) (fun _ hk => hk.2) (.int .i64 t129)) (fun _ hk => hk.2) (.slice Ao28 x135002_2.length co28)) (fun _ hk => trivial)), bl⟩

/-! ### shape_placed: function 81 -/
mutual
def shape_placed.l0 : Nat → List (S66) → Int → Int → Int → Int → List (S66) → Int → Int → Option (Int × Int × List Int × Int × Int)
 | 0, _, _, _, _, _, _, _, _ => none
 | k + 1, x0, x3, x4, x5, x6, x29, x30, x31 => if x31 < x30 then (if 0 ≤ x31 then (if x31 < (x29.length : Int) then (shape_placed.l0 k x0 (mn x3 ((rd_T66 x29 x31).f0)) (mn x4 ((rd_T66 x29 x31).f1)) (mx x5 ((rd_T66 x29 x31).f0)) (mx x6 ((rd_T66 x29 x31).f1)) x29 x30 (wrap64 (x31 + 1))) else (none)) else (none)) else ((bitmap_New.f k (wrap64 ((wrap64 (x5 - x3)) + 1)) (wrap64 ((wrap64 (x6 - x4)) + 1)) 0).bind fun bt143 => (shape_placed.l1 k x3 x4 x0 (x0.length : Int) 0 bt143.1 bt143.2.1 bt143.2.2.1))
def shape_placed.l1 : Nat → Int → Int → List (S66) → Int → Int → Int → Int → List Int → Option (Int × Int × List Int × Int × Int)
 | 0, _, _, _, _, _, _, _, _ => none
 | k + 1, x3, x4, x64, x65, x66, x150000, x150001, x150002 => if x66 < x65 then (if 0 ≤ x66 then (if x66 < (x64.length : Int) then (if 0 ≤ (wrap64 ((wrap64 ((wrap64 ((wrap64 (((rd_T66 x64 x66).f1) - x4)) * x150000)) + ((rd_T66 x64 x66).f0))) - x3)) then (if (wrap64 ((wrap64 ((wrap64 ((wrap64 (((rd_T66 x64 x66).f1) - x4)) * x150000)) + ((rd_T66 x64 x66).f0))) - x3)) < (x150002.length : Int) then (shape_placed.l1 k x3 x4 x64 x65 (wrap64 (x66 + 1)) x150000 x150001 (x150002.set ((wrap64 ((wrap64 ((wrap64 ((wrap64 (((rd_T66 x64 x66).f1) - x4)) * x150000)) + ((rd_T66 x64 x66).f0))) - x3)) : Int).toNat 1)) else (none)) else (none)) else (none)) else (none)) else (some (x150000, x150001, x150002, x3, x4))
end
def shape_placed.f (k : Nat) (l0 : List (S66)) : Option (Int × Int × List Int × Int × Int) := if 0 < (l0.length : Int) then (shape_placed.l0 k l0 ((rd_T66 l0 0).f0) ((rd_T66 l0 0).f1) ((rd_T66 l0 0).f0) ((rd_T66 l0 0).f1) l0 (l0.length : Int) 0) else (none)
theorem shape_placed.mono_l : ∀ k, (∀ y0 y1 y2 y3 y4 y5 y6 y7, LeO (shape_placed.l0 k y0 y1 y2 y3 y4 y5 y6 y7) (shape_placed.l0 (k + 1) y0 y1 y2 y3 y4 y5 y6 y7)) ∧ (∀ y0 y1 y2 y3 y4 y5 y6 y7, LeO (shape_placed.l1 k y0 y1 y2 y3 y4 y5 y6 y7) (shape_placed.l1 (k + 1) y0 y1 y2 y3 y4 y5 y6 y7))
 | 0 => ⟨fun _ _ _ _ _ _ _ _ r h => by simp [shape_placed.l0] at h, fun _ _ _ _ _ _ _ _ r h => by simp [shape_placed.l1] at h⟩
 | k + 1 => by
  obtain ⟨ih0, ih1⟩ := shape_placed.mono_l k
  refine ⟨?_, ?_⟩
  ·intro y0 y1 y2 y3 y4 y5 y6 y7
   unfold shape_placed.l0
   repeat' first
   | (with_reducible exact ih0 _ _ _ _ _ _ _ _)
   | (with_reducible exact ih1 _ _ _ _ _ _ _ _)
   | (with_reducible exact bitmap_New.mono _ _ _ _)
   | (with_reducible first | exact LeO.refl _ | exact LeO.none _ | refine LeO.ite ?_ ?_ | refine LeO.bind ?_ (fun _ => ?_))
   | exact ih0 _ _ _ _ _ _ _ _
   | exact ih1 _ _ _ _ _ _ _ _
   | exact bitmap_New.mono _ _ _ _
   | exact LeO.none _ | refine LeO.ite ?_ ?_ | refine LeO.bind ?_ (fun _ => ?_)
  ·intro y0 y1 y2 y3 y4 y5 y6 y7
   unfold shape_placed.l1
   repeat' first
   | (with_reducible exact ih0 _ _ _ _ _ _ _ _)
   | (with_reducible exact ih1 _ _ _ _ _ _ _ _)
   | (with_reducible exact bitmap_New.mono _ _ _ _)
   | (with_reducible first | exact LeO.refl _ | exact LeO.none _ | refine LeO.ite ?_ ?_ | refine LeO.bind ?_ (fun _ => ?_))
   | exact ih0 _ _ _ _ _ _ _ _
   | exact ih1 _ _ _ _ _ _ _ _
   | exact bitmap_New.mono _ _ _ _
   | exact LeO.none _ | refine LeO.ite ?_ ?_ | refine LeO.bind ?_ (fun _ => ?_)
theorem shape_placed.mono : ∀ a0 k, LeO (shape_placed.f k a0) (shape_placed.f (k + 1) a0) := by
 intro a0 k
 obtain ⟨ih0, ih1⟩ := shape_placed.mono_l k
 unfold shape_placed.f
 repeat' first
   | (with_reducible exact ih0 _ _ _ _ _ _ _ _)
   | (with_reducible exact ih1 _ _ _ _ _ _ _ _)
   | (with_reducible exact bitmap_New.mono _ _ _ _)
   | (with_reducible first | exact LeO.refl _ | exact LeO.none _ | refine LeO.ite ?_ ?_ | refine LeO.bind ?_ (fun _ => ?_))
   | exact ih0 _ _ _ _ _ _ _ _
   | exact ih1 _ _ _ _ _ _ _ _
   | exact bitmap_New.mono _ _ _ _
   | exact LeO.none _ | refine LeO.ite ?_ ?_ | refine LeO.bind ?_ (fun _ => ?_)
set_option maxHeartbeats 8000000 in
set_option maxRecDepth 100000 in
theorem shape_placed.calls (k : Nat) (A0 : Option Addr) (c0 : Nat) (l0 : List (S66)) (r1 : Int) (r2 : Int) (r3 : List Int) (r4 : Int) (r5 : Int) (w : World) (hr0 : Kd.C k66 w A0 l0.length l0) (hc0 : l0.length ≤ c0) (h : shape_placed.f k l0 = some (r1, r2, r3, r4, r5)) :
  Calls Try.prog 81 #[.slice A0 l0.length c0] w fun e w' => ∃ v2_ : Value, e = .returned (.agg #[.int .i64 r1, .int .i64 r2, v2_, .int .i64 r4, .int .i64 r5]) ∧ Kd.R (Kd.int .u8) 5 w' w.heap.size (fun _ => True) v2_ r3 ∧ Below w.heap.size w w' := by
 have hu48 := Try.underlying48
 have hu66 := Try.underlying66
 have hu24 := Try.underlying24
 have HR0 := Aside0.mk hr0
 have HC0 := Aside0.mk hc0
 clear hr0 hc0
 have HB := Aside0.mk (Below.refl w.heap.size w)
 have H : (if 0 < (l0.length : Int) then (shape_placed.l0 k l0 ((rd_T66 l0 0).f0) ((rd_T66 l0 0).f1) ((rd_T66 l0 0).f0) ((rd_T66 l0 0).f1) l0 (l0.length : Int) 0) else (none)) = some (r1, r2, r3, r4, r5) := h
 clear h
 by_cases c2 : 0 < (l0.length : Int)
 ·rw [if_pos c2] at H
  have c2b0 := decide_eq_true c2
  have c2b1 : decide (0 < l0.length) = true := decide_eq_true (by omega)
  clear c2
  have H' := Aside0.mk H
  clear H
  go_enter Try.func81, Try.ntmps81
  go_wp2_with (first | ((with_reducible refine gd 2 rfl ?_); refine bx 2 #[.int .i64 0, .int .i64 0, .slice none 0 0, .int .i64 0, .int .i64 0] 48 rfl rfl ?_; intro gb136 hg w3 hbox hb; have n_ := aC (bs hb) (aC hbox (aC (gz hg) (aE (gz hg)))); clear HB; obtain ⟨HB, BK136, GW136, GE136⟩ := n_; clear hb hbox hg; have p137 : 0 ≤ (0 : Int) := (by omega); have q137 : 0 < (l0.length : Int) := dt; obtain ⟨ad137, e137, hx137_0, hx137_1⟩ := at_T66 HR0.out 0 p137 q137; cases e137; have qi137 : (0 < l0.length) = True := eq_true (by omega); (try rw [show ((0 : Int)).toNat = 0 from rfl] at hx137_0); (try rw [show 0 * 2 = 0 from rfl] at hx137_0); (try rw [Addr.add_zero'] at hx137_0); (try rw [show ((0 : Int)).toNat = 0 from rfl] at hx137_1); (try rw [show 0 * 2 = 0 from rfl] at hx137_1); (try rw [Addr.add_zero'] at hx137_1); replace hx137_0 := hcB HB.out hx137_0; replace hx137_1 := hcB HB.out hx137_1; replace p137 := eq_true p137; replace q137 := eq_true q137; have p138 : 0 ≤ (0 : Int) := (by omega); have q138 : 0 < (l0.length : Int) := dt; obtain ⟨ad138, e138, hx138_0, hx138_1⟩ := at_T66 HR0.out 0 p138 q138; obtain rfl : ad137 = ad138 := (by injection e138); have qi138 : (0 < l0.length) = True := eq_true (by omega); (try rw [show ((0 : Int)).toNat = 0 from rfl] at hx138_0); (try rw [show 0 * 2 = 0 from rfl] at hx138_0); (try rw [Addr.add_zero'] at hx138_0); (try rw [show ((0 : Int)).toNat = 0 from rfl] at hx138_1); (try rw [show 0 * 2 = 0 from rfl] at hx138_1); (try rw [Addr.add_zero'] at hx138_1); replace hx138_0 := hcB HB.out hx138_0; replace hx138_1 := hcB HB.out hx138_1; replace p138 := eq_true p138; replace q138 := eq_true q138; have p139 : 0 ≤ (0 : Int) := (by omega); have q139 : 0 < (l0.length : Int) := dt; obtain ⟨ad139, e139, hx139_0, hx139_1⟩ := at_T66 HR0.out 0 p139 q139; obtain rfl : ad137 = ad139 := (by injection e139); have qi139 : (0 < l0.length) = True := eq_true (by omega); (try rw [show ((0 : Int)).toNat = 0 from rfl] at hx139_0); (try rw [show 0 * 2 = 0 from rfl] at hx139_0); (try rw [Addr.add_zero'] at hx139_0); (try rw [show ((0 : Int)).toNat = 0 from rfl] at hx139_1); (try rw [show 0 * 2 = 0 from rfl] at hx139_1); (try rw [Addr.add_zero'] at hx139_1); replace hx139_0 := hcB HB.out hx139_0; replace hx139_1 := hcB HB.out hx139_1; replace p139 := eq_true p139; replace q139 := eq_true q139; have p140 : 0 ≤ (0 : Int) := (by omega); have q140 : 0 < (l0.length : Int) := dt; obtain ⟨ad140, e140, hx140_0, hx140_1⟩ := at_T66 HR0.out 0 p140 q140; obtain rfl : ad137 = ad140 := (by injection e140); have qi140 : (0 < l0.length) = True := eq_true (by omega); (try rw [show ((0 : Int)).toNat = 0 from rfl] at hx140_0); (try rw [show 0 * 2 = 0 from rfl] at hx140_0); (try rw [Addr.add_zero'] at hx140_0); (try rw [show ((0 : Int)).toNat = 0 from rfl] at hx140_1); (try rw [show 0 * 2 = 0 from rfl] at hx140_1); (try rw [Addr.add_zero'] at hx140_1); replace hx140_0 := hcB HB.out hx140_0; replace hx140_1 := hcB HB.out hx140_1; replace p140 := eq_true p140; replace q140 := eq_true q140))
  repeat (go_quiet (first | ((with_reducible refine gd 2 rfl ?_); refine bx 2 #[.int .i64 0, .int .i64 0, .slice none 0 0, .int .i64 0, .int .i64 0] 48 rfl rfl ?_; intro gb136 hg w3 hbox hb; have n_ := aC (bs hb) (aC hbox (aC (gz hg) (aE (gz hg)))); clear HB; obtain ⟨HB, BK136, GW136, GE136⟩ := n_; clear hb hbox hg; have p137 : 0 ≤ (0 : Int) := (by omega); have q137 : 0 < (l0.length : Int) := dt; obtain ⟨ad137, e137, hx137_0, hx137_1⟩ := at_T66 HR0.out 0 p137 q137; cases e137; have qi137 : (0 < l0.length) = True := eq_true (by omega); (try rw [show ((0 : Int)).toNat = 0 from rfl] at hx137_0); (try rw [show 0 * 2 = 0 from rfl] at hx137_0); (try rw [Addr.add_zero'] at hx137_0); (try rw [show ((0 : Int)).toNat = 0 from rfl] at hx137_1); (try rw [show 0 * 2 = 0 from rfl] at hx137_1); (try rw [Addr.add_zero'] at hx137_1); replace hx137_0 := hcB HB.out hx137_0; replace hx137_1 := hcB HB.out hx137_1; replace p137 := eq_true p137; replace q137 := eq_true q137; have p138 : 0 ≤ (0 : Int) := (by omega); have q138 : 0 < (l0.length : Int) := dt; obtain ⟨ad138, e138, hx138_0, hx138_1⟩ := at_T66 HR0.out 0 p138 q138; obtain rfl : ad137 = ad138 := (by injection e138); have qi138 : (0 < l0.length) = True := eq_true (by omega); (try rw [show ((0 : Int)).toNat = 0 from rfl] at hx138_0); (try rw [show 0 * 2 = 0 from rfl] at hx138_0); (try rw [Addr.add_zero'] at hx138_0); (try rw [show ((0 : Int)).toNat = 0 from rfl] at hx138_1); (try rw [show 0 * 2 = 0 from rfl] at hx138_1); (try rw [Addr.add_zero'] at hx138_1); replace hx138_0 := hcB HB.out hx138_0; replace hx138_1 := hcB HB.out hx138_1; replace p138 := eq_true p138; replace q138 := eq_true q138; have p139 : 0 ≤ (0 : Int) := (by omega); have q139 : 0 < (l0.length : Int) := dt; obtain ⟨ad139, e139, hx139_0, hx139_1⟩ := at_T66 HR0.out 0 p139 q139; obtain rfl : ad137 = ad139 := (by injection e139); have qi139 : (0 < l0.length) = True := eq_true (by omega); (try rw [show ((0 : Int)).toNat = 0 from rfl] at hx139_0); (try rw [show 0 * 2 = 0 from rfl] at hx139_0); (try rw [Addr.add_zero'] at hx139_0); (try rw [show ((0 : Int)).toNat = 0 from rfl] at hx139_1); (try rw [show 0 * 2 = 0 from rfl] at hx139_1); (try rw [Addr.add_zero'] at hx139_1); replace hx139_0 := hcB HB.out hx139_0; replace hx139_1 := hcB HB.out hx139_1; replace p139 := eq_true p139; replace q139 := eq_true q139; have p140 : 0 ≤ (0 : Int) := (by omega); have q140 : 0 < (l0.length : Int) := dt; obtain ⟨ad140, e140, hx140_0, hx140_1⟩ := at_T66 HR0.out 0 p140 q140; obtain rfl : ad137 = ad140 := (by injection e140); have qi140 : (0 < l0.length) = True := eq_true (by omega); (try rw [show ((0 : Int)).toNat = 0 from rfl] at hx140_0); (try rw [show 0 * 2 = 0 from rfl] at hx140_0); (try rw [Addr.add_zero'] at hx140_0); (try rw [show ((0 : Int)).toNat = 0 from rfl] at hx140_1); (try rw [show 0 * 2 = 0 from rfl] at hx140_1); (try rw [Addr.add_zero'] at hx140_1); replace hx140_0 := hcB HB.out hx140_0; replace hx140_1 := hcB HB.out hx140_1; replace p140 := eq_true p140; replace q140 := eq_true q140)); try go_wp2_with (first | ((with_reducible refine gd 2 rfl ?_); refine bx 2 #[.int .i64 0, .int .i64 0, .slice none 0 0, .int .i64 0, .int .i64 0] 48 rfl rfl ?_; intro gb136 hg w3 hbox hb; have n_ := aC (bs hb) (aC hbox (aC (gz hg) (aE (gz hg)))); clear HB; obtain ⟨HB, BK136, GW136, GE136⟩ := n_; clear hb hbox hg; have p137 : 0 ≤ (0 : Int) := (by omega); have q137 : 0 < (l0.length : Int) := dt; obtain ⟨ad137, e137, hx137_0, hx137_1⟩ := at_T66 HR0.out 0 p137 q137; cases e137; have qi137 : (0 < l0.length) = True := eq_true (by omega); (try rw [show ((0 : Int)).toNat = 0 from rfl] at hx137_0); (try rw [show 0 * 2 = 0 from rfl] at hx137_0); (try rw [Addr.add_zero'] at hx137_0); (try rw [show ((0 : Int)).toNat = 0 from rfl] at hx137_1); (try rw [show 0 * 2 = 0 from rfl] at hx137_1); (try rw [Addr.add_zero'] at hx137_1); replace hx137_0 := hcB HB.out hx137_0; replace hx137_1 := hcB HB.out hx137_1; replace p137 := eq_true p137; replace q137 := eq_true q137; have p138 : 0 ≤ (0 : Int) := (by omega); have q138 : 0 < (l0.length : Int) := dt; obtain ⟨ad138, e138, hx138_0, hx138_1⟩ := at_T66 HR0.out 0 p138 q138; obtain rfl : ad137 = ad138 := (by injection e138); have qi138 : (0 < l0.length) = True := eq_true (by omega); (try rw [show ((0 : Int)).toNat = 0 from rfl] at hx138_0); (try rw [show 0 * 2 = 0 from rfl] at hx138_0); (try rw [Addr.add_zero'] at hx138_0); (try rw [show ((0 : Int)).toNat = 0 from rfl] at hx138_1); (try rw [show 0 * 2 = 0 from rfl] at hx138_1); (try rw [Addr.add_zero'] at hx138_1); replace hx138_0 := hcB HB.out hx138_0; replace hx138_1 := hcB HB.out hx138_1; replace p138 := eq_true p138; replace q138 := eq_true q138; have p139 : 0 ≤ (0 : Int) := (by omega); have q139 : 0 < (l0.length : Int) := dt; obtain ⟨ad139, e139, hx139_0, hx139_1⟩ := at_T66 HR0.out 0 p139 q139; obtain rfl : ad137 = ad139 := (by injection e139); have qi139 : (0 < l0.length) = True := eq_true (by omega); (try rw [show ((0 : Int)).toNat = 0 from rfl] at hx139_0); (try rw [show 0 * 2 = 0 from rfl] at hx139_0); (try rw [Addr.add_zero'] at hx139_0); (try rw [show ((0 : Int)).toNat = 0 from rfl] at hx139_1); (try rw [show 0 * 2 = 0 from rfl] at hx139_1); (try rw [Addr.add_zero'] at hx139_1); replace hx139_0 := hcB HB.out hx139_0; replace hx139_1 := hcB HB.out hx139_1; replace p139 := eq_true p139; replace q139 := eq_true q139; have p140 : 0 ≤ (0 : Int) := (by omega); have q140 : 0 < (l0.length : Int) := dt; obtain ⟨ad140, e140, hx140_0, hx140_1⟩ := at_T66 HR0.out 0 p140 q140; obtain rfl : ad137 = ad140 := (by injection e140); have qi140 : (0 < l0.length) = True := eq_true (by omega); (try rw [show ((0 : Int)).toNat = 0 from rfl] at hx140_0); (try rw [show 0 * 2 = 0 from rfl] at hx140_0); (try rw [Addr.add_zero'] at hx140_0); (try rw [show ((0 : Int)).toNat = 0 from rfl] at hx140_1); (try rw [show 0 * 2 = 0 from rfl] at hx140_1); (try rw [Addr.add_zero'] at hx140_1); replace hx140_0 := hcB HB.out hx140_0; replace hx140_1 := hcB HB.out hx140_1; replace p140 := eq_true p140; replace q140 := eq_true q140)))
  go_loopg [3, 4, 5, 6, 31] k (fun kq v3 v4 v5 v6 v31 w' => ∃ (x3_1 : Int) (x4_1 : Int) (x5_1 : Int) (x6_1 : Int) (x31_1 : Int), v3 = .int .i64 x3_1 ∧ v4 = .int .i64 x4_1 ∧ v5 = .int .i64 x5_1 ∧ v6 = .int .i64 x6_1 ∧ v31 = .int .i64 x31_1 ∧ Aside0 (shape_placed.l0 kq l0 x3_1 x4_1 x5_1 x6_1 l0 (l0.length : Int) x31_1 = some (r1, r2, r3, r4, r5)) ∧ Aside0 (kq ≤ k) ∧ Aside0 (w'.heap[gb136]? = some (.cells #[.int .i64 0, .int .i64 0, (.slice none 0 0), .int .i64 0, .int .i64 0] 48 (0, 0))) ∧ Aside0 (Below w.heap.size w w'))
  case atStart => exact ⟨((rd_T66 l0 0).f0), ((rd_T66 l0 0).f1), ((rd_T66 l0 0).f0), ((rd_T66 l0 0).f1), (0), rq, rq, rq, rq, rq, H', ⟨Nat.le_refl _⟩, ⟨bU BK136.out⟩, ⟨bl⟩⟩
  case round =>
   clear H'
   obtain ⟨x3_1, x4_1, x5_1, x6_1, x31_1, rfl, rfl, rfl, rfl, rfl, HA, HK1, BK136, HB⟩ := hrel
   cases gk with
   | zero => exact absurd HA.out (by simp [shape_placed.l0])
   | succ k1 =>
    have H := HA.out
    clear HA
    simp only [shape_placed.l0] at H
    by_cases c4 : x31_1 < (l0.length : Int)
    ·rw [if_pos c4] at H
     have c4b0 := decide_eq_true c4
     clear c4
     by_cases c5 : 0 ≤ x31_1
     ·rw [if_pos c5] at H
      have c5b0 := decide_eq_true c5
      clear c5
      by_cases c6 : x31_1 < (l0.length : Int)
      ·rw [if_pos c6] at H
       have c6b0 := decide_eq_true c6
       clear c6
       obtain ⟨ji7, hji7⟩ : ∃ j_ : Int, (mn x3_1 ((rd_T66 l0 x31_1).f0)) = j_ := ⟨_, rfl⟩
       replace H : (shape_placed.l0 k1 l0 ji7 (mn x4_1 ((rd_T66 l0 x31_1).f1)) (mx x5_1 ((rd_T66 l0 x31_1).f0)) (mx x6_1 ((rd_T66 l0 x31_1).f1)) l0 (l0.length : Int) (wrap64 (x31_1 + 1))) = some (r1, r2, r3, r4, r5) := by first | (rw [hji7] at H; exact H) | (simp only [hji7] at H ⊢; exact H)
       have hji7_ : (if ((rd_T66 l0 x31_1).f0) < x3_1 then ((rd_T66 l0 x31_1).f0) else x3_1) = ji7 := hji7
       obtain ⟨ji8, hji8⟩ : ∃ j_ : Int, (mx x5_1 ((rd_T66 l0 x31_1).f0)) = j_ := ⟨_, rfl⟩
       replace H : (shape_placed.l0 k1 l0 ji7 (mn x4_1 ((rd_T66 l0 x31_1).f1)) ji8 (mx x6_1 ((rd_T66 l0 x31_1).f1)) l0 (l0.length : Int) (wrap64 (x31_1 + 1))) = some (r1, r2, r3, r4, r5) := by first | (rw [hji8] at H; exact H) | (simp only [hji8] at H ⊢; exact H)
       have hji8_ : (if x5_1 < ((rd_T66 l0 x31_1).f0) then ((rd_T66 l0 x31_1).f0) else x5_1) = ji8 := hji8
       obtain ⟨ji9, hji9⟩ : ∃ j_ : Int, (mn x4_1 ((rd_T66 l0 x31_1).f1)) = j_ := ⟨_, rfl⟩
       replace H : (shape_placed.l0 k1 l0 ji7 ji9 ji8 (mx x6_1 ((rd_T66 l0 x31_1).f1)) l0 (l0.length : Int) (wrap64 (x31_1 + 1))) = some (r1, r2, r3, r4, r5) := by first | (rw [hji9] at H; exact H) | (simp only [hji9] at H ⊢; exact H)
       have hji9_ : (if ((rd_T66 l0 x31_1).f1) < x4_1 then ((rd_T66 l0 x31_1).f1) else x4_1) = ji9 := hji9
       obtain ⟨ji10, hji10⟩ : ∃ j_ : Int, (mx x6_1 ((rd_T66 l0 x31_1).f1)) = j_ := ⟨_, rfl⟩
       replace H : (shape_placed.l0 k1 l0 ji7 ji9 ji8 ji10 l0 (l0.length : Int) (wrap64 (x31_1 + 1))) = some (r1, r2, r3, r4, r5) := by first | (rw [hji10] at H; exact H) | (simp only [hji10] at H ⊢; exact H)
       have hji10_ : (if x6_1 < ((rd_T66 l0 x31_1).f1) then ((rd_T66 l0 x31_1).f1) else x6_1) = ji10 := hji10
       have H' := Aside0.mk H
       clear H
       have p141 : 0 ≤ (x31_1 : Int) := dt
       have q141 : x31_1 < (l0.length : Int) := dt
       obtain ⟨ad141, e141, hx141_0, hx141_1⟩ := at_T66 HR0.out x31_1 p141 q141
       obtain rfl : ad137 = ad141 := (by injection e141)
       replace hx141_0 := hcB HB.out hx141_0
       replace hx141_1 := hcB HB.out hx141_1
       replace p141 := eq_true p141
       replace q141 := eq_true q141
       go_wp2_with (first | ((with_reducible refine gd 8 rfl ?_); refine bx 8 #[.int .i64 0, .int .i64 0] 66 rfl rfl ?_; intro gb142 hg w11 hbox hb; have n_ := aC (blk_below (bU BK136.out) hb) (aC (bs hb) (aC hbox (aC (gz hg) (aC (gz hg) (aC (gn hg (bU BK136.out)) (aE (gm hg (bU BK136.out)))))))); clear BK136 HB; obtain ⟨BK136, HB, BK142, GW142, GE142, NB136_142, NB142_136⟩ := n_; clear hb hbox hg; have hnb12 := NB142_136.out; have hnc12 := NB136_142.out; obtain ⟨hcz13_0, hcz13_1, hfz13_0, hfz13_1⟩ := cz2f BK142.out))
       repeat (go_quiet (first | ((with_reducible refine gd 8 rfl ?_); refine bx 8 #[.int .i64 0, .int .i64 0] 66 rfl rfl ?_; intro gb142 hg w11 hbox hb; have n_ := aC (blk_below (bU BK136.out) hb) (aC (bs hb) (aC hbox (aC (gz hg) (aC (gz hg) (aC (gn hg (bU BK136.out)) (aE (gm hg (bU BK136.out)))))))); clear BK136 HB; obtain ⟨BK136, HB, BK142, GW142, GE142, NB136_142, NB142_136⟩ := n_; clear hb hbox hg; have hnb12 := NB142_136.out; have hnc12 := NB136_142.out; obtain ⟨hcz13_0, hcz13_1, hfz13_0, hfz13_1⟩ := cz2f BK142.out)); try go_wp2_with (first | ((with_reducible refine gd 8 rfl ?_); refine bx 8 #[.int .i64 0, .int .i64 0] 66 rfl rfl ?_; intro gb142 hg w11 hbox hb; have n_ := aC (blk_below (bU BK136.out) hb) (aC (bs hb) (aC hbox (aC (gz hg) (aC (gz hg) (aC (gn hg (bU BK136.out)) (aE (gm hg (bU BK136.out)))))))); clear BK136 HB; obtain ⟨BK136, HB, BK142, GW142, GE142, NB136_142, NB142_136⟩ := n_; clear hb hbox hg; have hnb12 := NB142_136.out; have hnc12 := NB136_142.out; obtain ⟨hcz13_0, hcz13_1, hfz13_0, hfz13_1⟩ := cz2f BK142.out)))
       go_roundg k1
       case measure => have := HK1.out; omega
       case rel => exact ⟨(ji7), (ji9), (ji8), (ji10), (wrap64 (x31_1 + 1)), (by first | rfl | (simp; done) | (simp only [← hji7] <;> (first | rfl | simp)) | (simp [*]; done)), (by first | rfl | (simp; done) | (simp only [← hji9] <;> (first | rfl | simp)) | (simp [*]; done)), (by first | rfl | (simp; done) | (simp only [← hji8] <;> (first | rfl | simp)) | (simp [*]; done)), (by first | rfl | (simp; done) | (simp only [← hji10] <;> (first | rfl | simp)) | (simp [*]; done)), rq, H', ⟨by have := HK1.out; omega⟩, ⟨by (with_reducible repeat (first | refine blk_drewN ?_ _ | refine blk_drew ?_ | refine blk_alloc ?_ _)); refine blk_far ?_ NB136_142.out _; (with_reducible repeat (first | refine blk_drewN ?_ _ | refine blk_drew ?_ | refine blk_alloc ?_ _)); refine blk_far ?_ NB136_142.out _; (with_reducible repeat (first | refine blk_drewN ?_ _ | refine blk_drew ?_ | refine blk_alloc ?_ _)); exact BK136.out⟩, ⟨bl⟩⟩
      ·rw [if_neg c6] at H
       exact absurd H (by simp)
     ·rw [if_neg c5] at H
      exact absurd H (by simp)
    ·rw [if_neg c4] at H
     have c4b0 := decide_eq_false c4
     clear c4
     replace H := Option.bind_eq_some_iff.mp H
     obtain ⟨⟨t143, t144, t145, t148⟩, A140, H⟩ := H
     replace H : (shape_placed.l1 k1 x3_1 x4_1 l0 (l0.length : Int) 0 t143 t144 t145) = some (r1, r2, r3, r4, r5) := H
     have A14 := Aside0.mk A140
     clear A140
     have H' := Aside0.mk H
     clear H
     go_wp2_with (first | (go_at_call 54; (with_reducible refine (bitmap_New.calls k1 (wrap64 ((wrap64 (x5_1 - x3_1)) + 1)) (wrap64 ((wrap64 (x6_1 - x4_1)) + 1)) 0 t143 t144 t145 t148 _ A14.out).mono ?_); rintro e w15 ⟨v146, rfl, ho0, hb⟩; have n_ := aC (Kd.R_lower ho0 bz) (aC (blk_below (bU BK136.out) hb) (aE (bs hb))); clear BK136 HB; obtain ⟨HO147, BK136, HB⟩ := n_; (try clear hb); (try clear ho0)) | ((with_reducible refine gd 9 rfl ?_); refine bx 9 #[.int .i64 0, .int .i64 0, .slice none 0 0] 24 rfl rfl ?_; intro gb149 hg w16 hbox hb; have n_ := aC (Kd.R_below (rU HO147.out) hb) (aC (blk_below (bU BK136.out) hb) (aC (bs hb) (aC hbox (aC (gz hg) (aC (gz hg) (aC (gn hg (bU BK136.out)) (aE (gm hg (bU BK136.out))))))))); clear HO147 BK136 HB; obtain ⟨HO147, BK136, HB, BK149, GW149, GE149, NB136_149, NB149_136⟩ := n_; clear hb hbox hg; have hnb17 := NB149_136.out; have hnc17 := NB136_149.out; obtain ⟨hcz18_0, hcz18_1, hcz18_2, hfz18_0, hfz18_1, hfz18_2⟩ := cz3f BK149.out; obtain ⟨Ao19, co19, eo19⟩ := Kd.R_slice HO147.out; subst eo19))
     go_loopg [66] k1 (fun kq v66 w' => ∃ (x66_2 : Int) (x150002_2 : List Int) (u150002 : Value), v66 = .int .i64 x66_2 ∧ Aside0 (shape_placed.l1 kq x3_1 x4_1 l0 (l0.length : Int) x66_2 t143 t144 x150002_2 = some (r1, r2, r3, r4, r5)) ∧ Aside0 (kq ≤ k1) ∧ Aside0 (Kd.R (Kd.int .u8) 5 w' w.heap.size (fun _ => True) u150002 x150002_2) ∧ Aside0 (w'.heap[gb136]? = some (.cells #[.int .i64 0, .int .i64 0, (.slice none 0 0), .int .i64 0, .int .i64 0] 48 (0, 0))) ∧ Aside0 (w'.heap[gb149]? = some (.cells #[.int .i64 t143, .int .i64 t144, u150002] 24 (0, 0))) ∧ Aside0 (Below w.heap.size w w'))
     case atStart => exact ⟨(0), (t145), (.slice Ao19 t145.length co19), rq, H', ⟨Nat.le_refl _⟩, ⟨rU (Kd.R_mono (Kd.R_far (p := ⟨gb149, 2, none⟩) (Kd.R_far (p := ⟨gb149, 1, none⟩) (Kd.R_far (p := ⟨gb149, 0, none⟩) (Kd.R_types HO147.out BK149.out (by decide)) (fun _ hk => hk.2) (.int .i64 t143)) (fun _ hk => hk.2) (.int .i64 t144)) (fun _ hk => hk.2) (.slice Ao19 t145.length co19)) (fun _ hk => trivial))⟩, ⟨by (with_reducible repeat (first | refine blk_drewN ?_ _ | refine blk_drew ?_ | refine blk_alloc ?_ _)); refine blk_far ?_ NB136_149.out _; (with_reducible repeat (first | refine blk_drewN ?_ _ | refine blk_drew ?_ | refine blk_alloc ?_ _)); refine blk_far ?_ NB136_149.out _; (with_reducible repeat (first | refine blk_drewN ?_ _ | refine blk_drew ?_ | refine blk_alloc ?_ _)); refine blk_far ?_ NB136_149.out _; (with_reducible repeat (first | refine blk_drewN ?_ _ | refine blk_drew ?_ | refine blk_alloc ?_ _)); exact BK136.out⟩, ⟨by (with_reducible repeat (first | refine blk_drewN ?_ _ | refine blk_drew ?_ | refine blk_alloc ?_ _)); refine blk_put (cs := #[.int .i64 t143, .int .i64 t144, .slice none 0 0]) ?_ 2 _ rfl; (with_reducible repeat (first | refine blk_drewN ?_ _ | refine blk_drew ?_ | refine blk_alloc ?_ _)); refine blk_put (cs := #[.int .i64 t143, .int .i64 0, .slice none 0 0]) ?_ 1 _ rfl; (with_reducible repeat (first | refine blk_drewN ?_ _ | refine blk_drew ?_ | refine blk_alloc ?_ _)); refine blk_put (cs := #[.int .i64 0, .int .i64 0, .slice none 0 0]) ?_ 0 _ rfl; (with_reducible repeat (first | refine blk_drewN ?_ _ | refine blk_drew ?_ | refine blk_alloc ?_ _)); exact BK149.out⟩, ⟨bl⟩⟩
     case round =>
      clear H'
      obtain ⟨x66_2, x150002_2, u150002, rfl, HA, HK2, HO_150002, BK136, BK149, HB⟩ := hrel
      cases gk with
      | zero => exact absurd HA.out (by simp [shape_placed.l1])
      | succ k2 =>
       have H := HA.out
       clear HA
       simp only [shape_placed.l1] at H
       by_cases c20 : x66_2 < (l0.length : Int)
       ·rw [if_pos c20] at H
        have c20b0 := decide_eq_true c20
        clear c20
        by_cases c21 : 0 ≤ x66_2
        ·rw [if_pos c21] at H
         have c21b0 := decide_eq_true c21
         clear c21
         by_cases c22 : x66_2 < (l0.length : Int)
         ·rw [if_pos c22] at H
          have c22b0 := decide_eq_true c22
          clear c22
          obtain ⟨ji23, hji23⟩ : ∃ j_ : Int, (wrap64 ((wrap64 ((wrap64 ((wrap64 (((rd_T66 l0 x66_2).f1) - x4_1)) * t143)) + ((rd_T66 l0 x66_2).f0))) - x3_1)) = j_ := ⟨_, rfl⟩
          replace H : (if 0 ≤ (ji23) then (if (ji23) < (x150002_2.length : Int) then (shape_placed.l1 k2 x3_1 x4_1 l0 (l0.length : Int) (wrap64 (x66_2 + 1)) t143 t144 (x150002_2.set ((ji23) : Int).toNat 1)) else (none)) else (none)) = some (r1, r2, r3, r4, r5) := by first | (rw [hji23] at H; exact H) | (simp only [hji23] at H ⊢; exact H)
          have hji23w : (IntKind.i64.wrap ((wrap64 ((wrap64 ((wrap64 (((rd_T66 l0 x66_2).f1) - x4_1)) * t143)) + ((rd_T66 l0 x66_2).f0))) - x3_1)) = ji23 := (i64_w _).trans hji23
          by_cases c24 : 0 ≤ (ji23)
          ·rw [if_pos c24] at H
           have c24b0 := decide_eq_true c24
           clear c24
           by_cases c25 : (ji23) < (x150002_2.length : Int)
           ·rw [if_pos c25] at H
            have c25b0 := decide_eq_true c25
            clear c25
            obtain ⟨y152, hy_⟩ : ∃ y_ : List Int, y_ = (x150002_2.set ((ji23) : Int).toNat 1) := ⟨_, rfl⟩
            replace H : (shape_placed.l1 k2 x3_1 x4_1 l0 (l0.length : Int) (wrap64 (x66_2 + 1)) t143 t144 y152) = some (r1, r2, r3, r4, r5) := rh
            have Ny152 := aE hy_
            clear hy_
            have H' := Aside0.mk H
            clear H
            have p150 : 0 ≤ (x66_2 : Int) := dt
            have q150 : x66_2 < (l0.length : Int) := dt
            obtain ⟨ad150, e150, hx150_0, hx150_1⟩ := at_T66 HR0.out x66_2 p150 q150
            obtain rfl : ad137 = ad150 := (by injection e150)
            replace hx150_0 := hcB HB.out hx150_0
            replace hx150_1 := hcB HB.out hx150_1
            replace p150 := eq_true p150
            replace q150 := eq_true q150
            go_wp2_with (first | ((with_reducible refine gd 12 rfl ?_); refine bx 12 #[.int .i64 0, .int .i64 0] 66 rfl rfl ?_; intro gb151 hg w27 hbox hb; have n_ := aC (Kd.R_below (rU HO_150002.out) hb) (aC (blk_below (bU BK136.out) hb) (aC (blk_below (bU BK149.out) hb) (aC (bs hb) (aC hbox (aC (gz hg) (aC (gz hg) (aC (gn hg (bU BK136.out)) (aC (gm hg (bU BK136.out)) (aC (gn hg (bU BK149.out)) (aE (gm hg (bU BK149.out)))))))))))); clear HO_150002 BK136 BK149 HB; obtain ⟨HO_150002, BK136, BK149, HB, BK151, GW151, GE151, NB136_151, NB151_136, NB149_151, NB151_149⟩ := n_; clear hb hbox hg; have hnb28 := NB151_136.out; have hnc28 := NB136_151.out; have hnb29 := NB151_149.out; have hnc29 := NB149_151.out; obtain ⟨hcz30_0, hcz30_1, hfz30_0, hfz30_1⟩ := cz2f BK151.out) | ((with_reducible refine gate_store (t := 66) (p := 12) rfl ?_); (try (rw [drewN_self w27]; generalize hq_ : World.drewN w27 _ = w27; have n0_ := Aside0.mk (Kd.R_at hq_ HO_150002.out); have n1_ := Aside0.mk (blk_at hq_ BK136.out); have n2_ := Aside0.mk (blk_at hq_ BK149.out); have n3_ := Aside0.mk (blk_at hq_ BK151.out); have n4_ := Aside0.mk (below_at hq_ HB.out); clear hq_ HO_150002 BK136 BK149 BK151 HB; have HO_150002 := n0_; have BK136 := n1_; have BK149 := n2_; have BK151 := n3_; have HB := n4_; clear n0_ n1_ n2_ n3_ n4_)); refine store_event (t := 66) (p := 12) (v := ?vo_w31) (w1 := ((w27.setCell ⟨gb151, 0, none⟩ (.int .i64 ((rd_T66 l0 x66_2).f0))).setCell ⟨gb151, 1, none⟩ (.int .i64 ((rd_T66 l0 x66_2).f1)))) ?hg ?ho ?hn ?hr ?_; (case ho => rfl); (case hg => rfl); (case hn => rfl); (case hr => first | (go_simp; done) | (go_simp; rfl)); intro w31 hw; have n_ := aC (show Kd.R (Kd.int .u8) 5 w31 w.heap.size (fun _ => True) u150002 x150002_2 from (by rw [hw]; exact (rU (Kd.R_mono (Kd.R_far (p := ⟨gb151, 1, none⟩) (Kd.R_far (p := ⟨gb151, 0, none⟩) (Kd.R_types HO_150002.out BK151.out (by decide)) (fun _ hk => hk.2) (.int .i64 ((rd_T66 l0 x66_2).f0))) (fun _ hk => hk.2) (.int .i64 ((rd_T66 l0 x66_2).f1))) (fun _ hk => trivial))))) (aC (show w31.heap[gb136]? = some (.cells #[.int .i64 0, .int .i64 0, .slice none 0 0, .int .i64 0, .int .i64 0] 48 (0, 0)) from (by rw [hw]; exact (by (with_reducible repeat (first | refine blk_drewN ?_ _ | refine blk_drew ?_ | refine blk_alloc ?_ _)); refine blk_far ?_ NB136_151.out _; (with_reducible repeat (first | refine blk_drewN ?_ _ | refine blk_drew ?_ | refine blk_alloc ?_ _)); refine blk_far ?_ NB136_151.out _; (with_reducible repeat (first | refine blk_drewN ?_ _ | refine blk_drew ?_ | refine blk_alloc ?_ _)); exact BK136.out))) (aC (show w31.heap[gb149]? = some (.cells #[.int .i64 t143, .int .i64 t144, u150002] 24 (0, 0)) from (by rw [hw]; exact (by (with_reducible repeat (first | refine blk_drewN ?_ _ | refine blk_drew ?_ | refine blk_alloc ?_ _)); refine blk_far ?_ NB149_151.out _; (with_reducible repeat (first | refine blk_drewN ?_ _ | refine blk_drew ?_ | refine blk_alloc ?_ _)); refine blk_far ?_ NB149_151.out _; (with_reducible repeat (first | refine blk_drewN ?_ _ | refine blk_drew ?_ | refine blk_alloc ?_ _)); exact BK149.out))) (aC (show w31.heap[gb151]? = some (.cells #[.int .i64 ((rd_T66 l0 x66_2).f0), .int .i64 ((rd_T66 l0 x66_2).f1)] 66 (0, 0)) from (by rw [hw]; exact (by (with_reducible repeat (first | refine blk_drewN ?_ _ | refine blk_drew ?_ | refine blk_alloc ?_ _)); refine blk_put (cs := #[.int .i64 ((rd_T66 l0 x66_2).f0), .int .i64 0]) ?_ 1 _ rfl; (with_reducible repeat (first | refine blk_drewN ?_ _ | refine blk_drew ?_ | refine blk_alloc ?_ _)); refine blk_put (cs := #[.int .i64 0, .int .i64 0]) ?_ 0 _ rfl; (with_reducible repeat (first | refine blk_drewN ?_ _ | refine blk_drew ?_ | refine blk_alloc ?_ _)); exact BK151.out))) (aE (show Below w.heap.size w w31 from (by rw [hw]; exact bl)))))); clear hw HO_150002 BK136 BK149 BK151 HB; obtain ⟨HO_150002, BK136, BK149, BK151, HB⟩ := n_; have hnb32 := NB149_136.out; have hnc32 := NB136_149.out; obtain ⟨hcz33_0, hcz33_1, hcz33_2, hfz33_0, hfz33_1, hfz33_2⟩ := cz3f BK149.out; obtain ⟨hcz34_0, hcz34_1, hfz34_0, hfz34_1⟩ := cz2f BK151.out; have p26 : 0 ≤ ((ji23) : Int) := dt; have q26 : ((ji23) : Int) < ((x150002_2.length : Int) : Int) := dt; obtain ⟨go26, co26, eo26, gb26, gl26, cl26, HG26⟩ := Kd.R_form HO_150002.out (by omega); (first | cases eo26 | (injection eo26 with ea_ en_ ec_; (first | subst ea_ | (injection ea_ with ea_; subst ea_)); subst ec_; clear en_)); have GB26 := Aside0.mk gb26; have GG26 := Aside0.mk HG26; clear gb26 gl26 HG26; obtain ⟨hx26_0, hf26_0⟩ := Kd.R_celln 0 HO_150002.out ((ji23) : Int) p26 q26; replace p26 := eq_true p26; replace q26 := eq_true q26; obtain ⟨hy35_, hz35_⟩ := Kd.R_celln 0 HO_150002.out ((ji23) : Int) (dt) (dt); have HP35 := Kd.R_putg HO_150002.out ((ji23) : Int) 1) | ((with_reducible refine gate_store (t := 5) (p := 84) rfl ?_); (try (rw [drewN_self w31]; generalize hq_ : World.drewN w31 _ = w31; have n0_ := Aside0.mk (Kd.R_at hq_ HO_150002.out); have n1_ := Aside0.mk (blk_at hq_ BK136.out); have n2_ := Aside0.mk (blk_at hq_ BK149.out); have n3_ := Aside0.mk (blk_at hq_ BK151.out); have n4_ := Aside0.mk (below_at hq_ HB.out); clear hq_ HO_150002 BK136 BK149 BK151 HB; have HO_150002 := n0_; have BK136 := n1_; have BK149 := n2_; have BK151 := n3_; have HB := n4_; clear n0_ n1_ n2_ n3_ n4_; (try (obtain ⟨hy35_, hz35_⟩ := Kd.R_celln 0 HO_150002.out ((ji23) : Int) (dt) (dt))); (try (have HP35 := Kd.R_putg HO_150002.out ((ji23) : Int) 1)))); refine store_event (t := 5) (p := 84) (v := ?vo_w36) (w1 := (w31.setCell ⟨go26, ((ji23) : Int).toNat, none⟩ (.int .u8 1))) ?hg ?ho ?hn ?hr ?_; (case ho => rfl); (case hg => rfl); (case hn => rfl); (case hr => first | (go_simp; done) | (go_simp; rfl)); intro w36 hw; have hg : w31.grownBy w36 (some go26) := (by rw [hw]; exact HP35.2); have hp_ : Kd.R (Kd.int .u8) 5 w36 w.heap.size (fun _ => True) (.slice (some ⟨go26, 0, none⟩) x150002_2.length co26) y152 := (by rw [hw, Ny152.out]; exact HP35.1); clear HP35; have n_ := aC hp_ (aC (blk_grown (bU BK136.out) hg (Kd.R_ne HO_150002.out BK136.out (by decide))) (aC (blk_grown (bU BK149.out) hg (Kd.R_ne HO_150002.out BK149.out (by decide))) (aC (blk_grown (g := gb151) (o := .cells #[.int .i64 ((rd_T66 l0 x66_2).f0), .int .i64 ((rd_T66 l0 x66_2).f1)] 66 (0, 0)) (bU BK151.out) hg (Kd.R_ne HO_150002.out BK151.out (by decide))) (aE ((by rw [hw]; exact below_set (HB.out) GB26.out : Below w.heap.size w w36)))))); clear HO_150002 BK136 BK149 BK151 HB; obtain ⟨HO_150002, BK136, BK149, BK151, HB⟩ := n_; clear hg hw hp_))
            go_roundg k2
            case measure => have := HK1.out; have := HK2.out; omega
            case rel => exact ⟨(wrap64 (x66_2 + 1)), (y152), (.slice (some ⟨go26, 0, none⟩) x150002_2.length co26), rq, H', ⟨by have := HK1.out; have := HK2.out; omega⟩, ⟨rU HO_150002.out⟩, ⟨bU BK136.out⟩, ⟨bU BK149.out⟩, ⟨bl⟩⟩
           ·rw [if_neg c25] at H
            exact absurd H (by simp)
          ·rw [if_neg c24] at H
           exact absurd H (by simp)
         ·rw [if_neg c22] at H
          exact absurd H (by simp)
        ·rw [if_neg c21] at H
         exact absurd H (by simp)
       ·rw [if_neg c20] at H
        have c20b0 := decide_eq_false c20
        clear c20
        simp only [Option.some.injEq, Prod.mk.injEq] at H
        obtain ⟨rfl, rfl, rfl, rfl, rfl⟩ := H
        have hnb37 := NB149_136.out
        have hnc37 := NB136_149.out
        obtain ⟨hcz38_0, hcz38_1, hcz38_2, hfz38_0, hfz38_1, hfz38_2⟩ := cz3f BK149.out
        obtain ⟨Ao39, co39, eo39⟩ := Kd.R_slice HO_150002.out
        subst eo39
        obtain ⟨hcz40_0, hcz40_1, hcz40_2, hcz40_3, hcz40_4, hfz40_0, hfz40_1, hfz40_2, hfz40_3, hfz40_4⟩ := cz5f BK136.out
        go_wp2
        refine bodyPost_ret (results_cell_row rfl _ _ gb136 48 #[.int .i64 t143, .int .i64 t144, .slice Ao39 x150002_2.length co39, .int .i64 x3_1, .int .i64 x4_1] (0, 0) _ rfl (by (with_reducible repeat (first | refine blk_drewN ?_ _ | refine blk_drew ?_ | refine blk_alloc ?_ _)); refine blk_put (cs := #[.int .i64 t143, .int .i64 t144, .slice Ao39 x150002_2.length co39, .int .i64 x3_1, .int .i64 0]) ?_ 4 _ rfl; (with_reducible repeat (first | refine blk_drewN ?_ _ | refine blk_drew ?_ | refine blk_alloc ?_ _)); refine blk_put (cs := #[.int .i64 t143, .int .i64 t144, .slice Ao39 x150002_2.length co39, .int .i64 0, .int .i64 0]) ?_ 3 _ rfl; (with_reducible repeat (first | refine blk_drewN ?_ _ | refine blk_drew ?_ | refine blk_alloc ?_ _)); refine blk_put (cs := #[.int .i64 t143, .int .i64 t144, .slice none 0 0, .int .i64 0, .int .i64 0]) ?_ 2 _ rfl; (with_reducible repeat (first | refine blk_drewN ?_ _ | refine blk_drew ?_ | refine blk_alloc ?_ _)); refine blk_put (cs := #[.int .i64 t143, .int .i64 0, .slice none 0 0, .int .i64 0, .int .i64 0]) ?_ 1 _ rfl; (with_reducible repeat (first | refine blk_drewN ?_ _ | refine blk_drew ?_ | refine blk_alloc ?_ _)); refine blk_put (cs := #[.int .i64 0, .int .i64 0, .slice none 0 0, .int .i64 0, .int .i64 0]) ?_ 0 _ rfl; (with_reducible repeat (first | refine blk_drewN ?_ _ | refine blk_drew ?_ | refine blk_alloc ?_ _)); exact BK136.out) Try.underlying48 rfl (by kernel_rfl)) rfl ?_
        exact ⟨_, re, rU (Kd.R_mono (Kd.R_far (p := ⟨gb136, 4, none⟩) (Kd.R_far (p := ⟨gb136, 3, none⟩) (Kd.R_far (p := ⟨gb136, 2, none⟩) (Kd.R_far (p := ⟨gb136, 1, none⟩) (Kd.R_far (p := ⟨gb136, 0, none⟩) (Kd.R_types HO_150002.out BK136.out (by decide)) (fun _ hk => hk.2) (.int .i64 t143)) (fun _ hk => hk.2) (.int .i64 t144)) (fun _ hk => hk.2) (.slice Ao39 x150002_2.length co39)) (fun _ hk => hk.2) (.int .i64 x3_1)) (fun _ hk => hk.2) (.int .i64 x4_1)) (fun _ hk => trivial)), bl⟩
 ·rw [if_neg c2] at H
  exact absurd H (by simp)

/-! ### shape_four: function 40 -/
def shape_four.f  : Option ((List (S66))) := some (([(⟨(-1), 0⟩ : S66), (⟨1, 0⟩ : S66), (⟨0, (-1)⟩ : S66), (⟨0, 1⟩ : S66)] : List (S66)))
set_option maxHeartbeats 8000000 in
set_option maxRecDepth 100000 in
theorem shape_four.calls  (r : List (S66)) (w : World) (h : shape_four.f  = some r) :
  Calls Try.prog 40 #[] w fun e w' => ∃ v0_ : Value, e = .returned (v0_) ∧ Kd.R k66 66 w' w.heap.size (fun _ => True) v0_ r ∧ Below w.heap.size w w' := by
 have hu66 := Try.underlying66
 have HB := Aside0.mk (Below.refl w.heap.size w)
 have H : (some (([(⟨(-1), 0⟩ : S66), (⟨1, 0⟩ : S66), (⟨0, (-1)⟩ : S66), (⟨0, 1⟩ : S66)] : List (S66)))) = some r := h
 clear h
 obtain ⟨y153, hy_⟩ : ∃ y_ : List (S66), y_ = (([(⟨(-1), 0⟩ : S66), (⟨1, 0⟩ : S66), (⟨0, (-1)⟩ : S66), (⟨0, 1⟩ : S66)] : List (S66))) := ⟨_, rfl⟩
 replace H : (some y153) = some r := rh
 have Ny153 := aE hy_
 clear hy_
 obtain rfl := Option.some.inj H
 go_enter Try.func40, Try.ntmps40
 go_wp2_with (first | ((with_reducible refine gd 5 rfl ?_); refine Kd.R_lit k66 _ 66 ?hg (N := 5) ?hd (xs := ([(⟨(-1), 0⟩ : S66), (⟨1, 0⟩ : S66), (⟨0, (-1)⟩ : S66), (⟨0, 1⟩ : S66)] : List (S66))) (inner := [.int .i64 (-1), .int .i64 0, .int .i64 1, .int .i64 0, .int .i64 0, .int .i64 (-1), .int .i64 0, .int .i64 1]) (ok := fun _ => True) (okp := fun _ => True) ?hr ?hp (fun _ hk => hk) trivial (Below.refl _ _) (Nat.le_refl _) (by simp) ?_; (case hd => rfl); (case hg => rfl); (case hr => first | (go_simp; done) | (go_simp; rfl)); (case hp => exact (Reps.c2 (show Kd.M k66 _ _ _ (⟨(-1), 0⟩ : S66) [.int .i64 (-1), .int .i64 0] from (k66_mkM _ _ _ (⟨(-1), 0⟩ : S66) )) (Reps.c2 (show Kd.M k66 _ _ _ (⟨1, 0⟩ : S66) [.int .i64 1, .int .i64 0] from (k66_mkM _ _ _ (⟨1, 0⟩ : S66) )) (Reps.c2 (show Kd.M k66 _ _ _ (⟨0, (-1)⟩ : S66) [.int .i64 0, .int .i64 (-1)] from (k66_mkM _ _ _ (⟨0, (-1)⟩ : S66) )) (Reps.c2 (show Kd.M k66 _ _ _ (⟨0, 1⟩ : S66) [.int .i64 0, .int .i64 1] from (k66_mkM _ _ _ (⟨0, 1⟩ : S66) )) (Reps.none _ _)))))); intro v154 w1 ho2 hb hg_ hnew_; clear hg_ hnew_; (first | rw [← Ny153.out] at ho2 | (simp only [Int.reduceToNat] at ho2; rw [← Ny153.out] at ho2)); have n_ := aC (Kd.R_lower ho2 bz) (aE (bs hb)); clear HB; obtain ⟨HO155, HB⟩ := n_; clear hb ho2))
 go_ret
 exact ⟨_, re, rU HO155.out, bl⟩

/-! ### shape_eight: function 82 -/
def shape_eight.f  : Option ((List (S66))) := (shape_four.f).bind fun t156 => ((some (([(⟨(-1), (-1)⟩ : S66), (⟨1, (-1)⟩ : S66), (⟨(-1), 1⟩ : S66), (⟨1, 1⟩ : S66)] : List (S66)) : List (S66))).bind fun y159 => (if t156.length + y159.length < 8796093022208 then (some (t156 ++ y159)) else (none)))
set_option maxHeartbeats 8000000 in
set_option maxRecDepth 100000 in
theorem shape_eight.calls  (r : List (S66)) (w : World) (h : shape_eight.f  = some r) :
  Calls Try.prog 82 #[] w fun e w' => ∃ v0_ : Value, e = .returned (v0_) ∧ Kd.R k66 66 w' w.heap.size (fun _ => True) v0_ r ∧ Below w.heap.size w w' := by
 have hu66 := Try.underlying66
 have HB := Aside0.mk (Below.refl w.heap.size w)
 have H : ((shape_four.f).bind fun t156 => ((some (([(⟨(-1), (-1)⟩ : S66), (⟨1, (-1)⟩ : S66), (⟨(-1), 1⟩ : S66), (⟨1, 1⟩ : S66)] : List (S66)) : List (S66))).bind fun y159 => (if t156.length + y159.length < 8796093022208 then (some (t156 ++ y159)) else (none)))) = some r := h
 clear h
 replace H := Option.bind_eq_some_iff.mp H
 obtain ⟨t156, A10, H⟩ := H
 replace H : ((some (([(⟨(-1), (-1)⟩ : S66), (⟨1, (-1)⟩ : S66), (⟨(-1), 1⟩ : S66), (⟨1, 1⟩ : S66)] : List (S66)) : List (S66))).bind fun y159 => (if t156.length + y159.length < 8796093022208 then (some (t156 ++ y159)) else (none))) = some r := H
 have A1 := Aside0.mk A10
 clear A10
 obtain ⟨y159, hy_⟩ : ∃ y_ : List (S66), y_ = (([(⟨(-1), (-1)⟩ : S66), (⟨1, (-1)⟩ : S66), (⟨(-1), 1⟩ : S66), (⟨1, 1⟩ : S66)] : List (S66))) := ⟨_, rfl⟩
 replace H : (if t156.length + y159.length < 8796093022208 then (some (t156 ++ y159)) else (none)) = some r := rh
 have Ny159 := aE hy_
 clear hy_
 by_cases c2 : t156.length + y159.length < 8796093022208
 ·rw [if_pos c2] at H
  have LMc2 := Aside0.mk c2
  clear c2
  obtain ⟨y162, hy_⟩ : ∃ y_ : List (S66), y_ = (t156 ++ y159) := ⟨_, rfl⟩
  replace H : (some y162) = some r := rh
  have Ny162 := aE hy_
  clear hy_
  obtain rfl := Option.some.inj H
  go_enter Try.func82, Try.ntmps82
  go_wp2_with (first | ((with_reducible refine gf 40 rfl ?_); refine gL (some 1) rfl rfl Try.func40 rfl #[] rfl ?_; (with_reducible refine (shape_four.calls  t156 _ A1.out).mono ?_); rintro e w3 ⟨v157, rfl, ho0, hb⟩; refine ⟨_, rfl, ?_⟩; have n_ := aC (Kd.R_lower ho0 bz) (aE (bs hb)); clear HB; obtain ⟨HO158, HB⟩ := n_; (try clear hb); (try clear ho0)) | ((with_reducible refine gd 6 rfl ?_); refine Kd.R_lit k66 _ 66 ?hg (N := 6) ?hd (xs := ([(⟨(-1), (-1)⟩ : S66), (⟨1, (-1)⟩ : S66), (⟨(-1), 1⟩ : S66), (⟨1, 1⟩ : S66)] : List (S66))) (inner := [.int .i64 (-1), .int .i64 (-1), .int .i64 1, .int .i64 (-1), .int .i64 (-1), .int .i64 1, .int .i64 1, .int .i64 1]) (ok := fun _ => True) (okp := fun _ => True) ?hr ?hp (fun _ hk => hk) trivial (Below.refl _ _) (Nat.le_refl _) (by simp) ?_; (case hd => rfl); (case hg => rfl); (case hr => first | (go_simp; done) | (go_simp; rfl)); (case hp => exact (Reps.c2 (show Kd.M k66 _ _ _ (⟨(-1), (-1)⟩ : S66) [.int .i64 (-1), .int .i64 (-1)] from (k66_mkM _ _ _ (⟨(-1), (-1)⟩ : S66) )) (Reps.c2 (show Kd.M k66 _ _ _ (⟨1, (-1)⟩ : S66) [.int .i64 1, .int .i64 (-1)] from (k66_mkM _ _ _ (⟨1, (-1)⟩ : S66) )) (Reps.c2 (show Kd.M k66 _ _ _ (⟨(-1), 1⟩ : S66) [.int .i64 (-1), .int .i64 1] from (k66_mkM _ _ _ (⟨(-1), 1⟩ : S66) )) (Reps.c2 (show Kd.M k66 _ _ _ (⟨1, 1⟩ : S66) [.int .i64 1, .int .i64 1] from (k66_mkM _ _ _ (⟨1, 1⟩ : S66) )) (Reps.none _ _)))))); intro v160 w4 ho5 hb hg_ hnew_; clear hg_ hnew_; (first | rw [← Ny159.out] at ho5 | (simp only [Int.reduceToNat] at ho5; rw [← Ny159.out] at ho5)); have n_ := aC (Kd.R_elder' (rU HO158.out) (Kd.R_base ho5) hb) (aC (Kd.R_lower (Kd.R_new' ho5 (Kd.R_lt (rU HO158.out))) bz) (aE (bs hb))); clear HO158 HB; obtain ⟨HO158, HO161, HB⟩ := n_; clear hb ho5; obtain ⟨Ao7, co7, eo7⟩ := Kd.R_slice HO161.out; subst eo7) | ((with_reducible refine gate_builtin (b := .append) (xs := #[.tmp 1, .tmp 6]) rfl ?_); at_builtin; refine Kd.R_append_rows k66 (w0 := w) w.heap.size rfl (.tmp 1) (.tmp 6) 63 66 (.agg #[(.int .i64 0), (.int .i64 0)]) 16 rfl Try.underlying63 info66 rfl (by decide) (by omega) v157 t156 y159 _ _ _ (fun k_ => some k_ ≠ (.slice Ao7 y159.length co7 : Value).ownBlock) (fun _ => False) rfl rfl ?aO ?aR (fun _ _ h => h) (fun _ h => h.elim) ?aF ?aB ?aS ?aL ?_; (case aR => repeat (first | exact (Kd.R_reads' HO161.out).2.2 | (with_reducible refine Kd.C_alloc ?_ _) | (with_reducible refine Kd.C_drewN ?_ _) | (with_reducible refine Kd.C_drew ?_))); (case aB => exact bl); (case aF => exact (fun k_ hk => Kd.fresh' (Kd.R_lt (rU HO161.out)) k_ hk)); (case aO => exact (rU (Kd.R_mono HO158.out (fun _ hk => hk.2)))); (case aS => exact bz); (case aL => have := LMc2.out; omega); intro v163 w6 ho hb hg hat; rw [← Ny162.out] at ho; have n_ := aC (Kd.R_after (ok := (fun _ => True)) (rU HO161.out) hg hat) (aC hb (aE ho)); clear HO161 HB HO158; obtain ⟨HO161, HB, HO164⟩ := n_; clear ho hb hg hat))
  go_ret
  exact ⟨_, re, rU (Kd.R_mono HO164.out (fun _ hk => trivial)), bl⟩
 ·rw [if_neg c2] at H
  exact absurd H (by simp)

end Go.Proofs.Ytaflekobfbgedaa.PShapePieces
