-- Written by a program of this session (wip/tools/myprint.py) over the kit's print. Not trusted: Lean checks it.
import Derived.Test.YtaflekobfbgedaaPShapePiecesx0
import Derived.Test.YtaflekobfbgedaaPShapePiecesx10
namespace Go.Proofs.Ytaflekobfbgedaa.PShapePieces
open Go.RowKit Go.Proofs.YtaflekobfbgedaaW.PrintWords Go.Proofs.YtaflekobfbgedaaW.PrintLast Go.Proofs.YtaflekobfbgedaaW.PrintMore
attribute [local go_sem] max2_int min2_int max_two min_two max_three min_three max_four min_four   -- for this text's walks alone
set_option linter.unusedVariables false
set_option linter.unusedSimpArgs false

/-! ### incunableref05_Part: function 65 -/
mutual
def incunableref05_Part.l0 : Nat → Int → Int → Int → Int → Int → Int → Int → List Int → Int → Int → List Int → Option (Int × Int × List Int)
 | 0, _, _, _, _, _, _, _, _, _, _, _ => none
 | k + 1, x1, x2, x3, x4, x12, x339000, x339001, x339002, x346000, x346001, x346002 => if x12 < x4 then (incunableref05_Part.l1 k x1 x2 x3 x4 x12 0 x339000 x339001 x339002 x346000 x346001 x346002) else (some (x346000, x346001, x346002))
def incunableref05_Part.l1 : Nat → Int → Int → Int → Int → Int → Int → Int → Int → List Int → Int → Int → List Int → Option (Int × Int × List Int)
 | 0, _, _, _, _, _, _, _, _, _, _, _, _ => none
 | k + 1, x1, x2, x3, x4, x12, x13, x339000, x339001, x339002, x346000, x346001, x346002 => if x13 < x3 then ((incunableref05_At.f x339000 x339001 x339002 (wrap64 (x1 + x13)) (wrap64 (x2 + x12))).bind fun t346 => ((incunableref05_Put.f x346000 x346001 x346002 x13 x12 t346).bind fun t347 => (incunableref05_Part.l1 k x1 x2 x3 x4 x12 (wrap64 (x13 + 1)) x339000 x339001 x339002 x346000 x346001 t347))) else (incunableref05_Part.l0 k x1 x2 x3 x4 (wrap64 (x12 + 1)) x339000 x339001 x339002 x346000 x346001 x346002)
end
def incunableref05_Part.f (k : Nat) (a0_0 : Int) (a0_1 : Int) (l0_2 : List Int) (a1 : Int) (a2 : Int) (a3 : Int) (a4 : Int) : Option (Int × Int × List Int) := (incunableref05_make2.f k a3 a4 0).bind fun bt340 => (incunableref05_Part.l0 k a1 a2 a3 a4 0 a0_0 a0_1 l0_2 bt340.1 bt340.2.1 bt340.2.2)
theorem incunableref05_Part.mono_l : ∀ k, (∀ y0 y1 y2 y3 y4 y5 y6 y7 y8 y9 y10, LeO (incunableref05_Part.l0 k y0 y1 y2 y3 y4 y5 y6 y7 y8 y9 y10) (incunableref05_Part.l0 (k + 1) y0 y1 y2 y3 y4 y5 y6 y7 y8 y9 y10)) ∧ (∀ y0 y1 y2 y3 y4 y5 y6 y7 y8 y9 y10 y11, LeO (incunableref05_Part.l1 k y0 y1 y2 y3 y4 y5 y6 y7 y8 y9 y10 y11) (incunableref05_Part.l1 (k + 1) y0 y1 y2 y3 y4 y5 y6 y7 y8 y9 y10 y11))
 | 0 => ⟨fun _ _ _ _ _ _ _ _ _ _ _ r h => by simp [incunableref05_Part.l0] at h, fun _ _ _ _ _ _ _ _ _ _ _ _ r h => by simp [incunableref05_Part.l1] at h⟩
 | k + 1 => by
  obtain ⟨ih0, ih1⟩ := incunableref05_Part.mono_l k
  refine ⟨?_, ?_⟩
  ·intro y0 y1 y2 y3 y4 y5 y6 y7 y8 y9 y10
   unfold incunableref05_Part.l0
   repeat' first
   | (with_reducible exact ih0 _ _ _ _ _ _ _ _ _ _ _)
   | (with_reducible exact ih1 _ _ _ _ _ _ _ _ _ _ _ _)
   | (with_reducible exact incunableref05_make2.mono _ _ _ _)
   | (with_reducible first | exact LeO.refl _ | exact LeO.none _ | refine LeO.ite ?_ ?_ | refine LeO.bind ?_ (fun _ => ?_))
   | exact ih0 _ _ _ _ _ _ _ _ _ _ _
   | exact ih1 _ _ _ _ _ _ _ _ _ _ _ _
   | exact incunableref05_make2.mono _ _ _ _
   | exact LeO.none _ | refine LeO.ite ?_ ?_ | refine LeO.bind ?_ (fun _ => ?_)
  ·intro y0 y1 y2 y3 y4 y5 y6 y7 y8 y9 y10 y11
   unfold incunableref05_Part.l1
   repeat' first
   | (with_reducible exact ih0 _ _ _ _ _ _ _ _ _ _ _)
   | (with_reducible exact ih1 _ _ _ _ _ _ _ _ _ _ _ _)
   | (with_reducible exact incunableref05_make2.mono _ _ _ _)
   | (with_reducible first | exact LeO.refl _ | exact LeO.none _ | refine LeO.ite ?_ ?_ | refine LeO.bind ?_ (fun _ => ?_))
   | exact ih0 _ _ _ _ _ _ _ _ _ _ _
   | exact ih1 _ _ _ _ _ _ _ _ _ _ _ _
   | exact incunableref05_make2.mono _ _ _ _
   | exact LeO.none _ | refine LeO.ite ?_ ?_ | refine LeO.bind ?_ (fun _ => ?_)
theorem incunableref05_Part.mono : ∀ a0 a1 a2 a3 a4 a5 a6 k, LeO (incunableref05_Part.f k a0 a1 a2 a3 a4 a5 a6) (incunableref05_Part.f (k + 1) a0 a1 a2 a3 a4 a5 a6) := by
 intro a0 a1 a2 a3 a4 a5 a6 k
 obtain ⟨ih0, ih1⟩ := incunableref05_Part.mono_l k
 unfold incunableref05_Part.f
 repeat' first
   | (with_reducible exact ih0 _ _ _ _ _ _ _ _ _ _ _)
   | (with_reducible exact ih1 _ _ _ _ _ _ _ _ _ _ _ _)
   | (with_reducible exact incunableref05_make2.mono _ _ _ _)
   | (with_reducible first | exact LeO.refl _ | exact LeO.none _ | refine LeO.ite ?_ ?_ | refine LeO.bind ?_ (fun _ => ?_))
   | exact ih0 _ _ _ _ _ _ _ _ _ _ _
   | exact ih1 _ _ _ _ _ _ _ _ _ _ _ _
   | exact incunableref05_make2.mono _ _ _ _
   | exact LeO.none _ | refine LeO.ite ?_ ?_ | refine LeO.bind ?_ (fun _ => ?_)
def incunableref05_Part.T8 : Bool × List (List Nat × List Nat) := (true, [([], []), ([], []), ([], []), ([], []), ([], []), ([], []), ([4, 5], [4, 5]), ([], []), ([], []), ([7, 8], [7, 8]), ([3, 6, 9], [3, 6, 9]), ([0, 1, 2, 10, 10], [0, 1, 2, 10])])
def incunableref05_Part.B8 : List Nat := [0, 0, 0, 0, 0, 0, 48, 0, 0, 384, 1016, 2047]
theorem incunableref05_Part.tab8 : rtab .any (opsOf Try.f65 8) = incunableref05_Part.T8 := by kernel_rfl
theorem incunableref05_Part.bits8 : waitsOk incunableref05_Part.T8.2 incunableref05_Part.B8 = true := by kernel_rfl
set_option maxHeartbeats 8000000 in
set_option maxRecDepth 100000 in
theorem incunableref05_Part.calls (k : Nat) (a0_0 : Int) (a0_1 : Int) (A0_2 : Option Addr) (c0_2 : Nat) (l0_2 : List Int) (a1 : Int) (a2 : Int) (a3 : Int) (a4 : Int) (r1 : Int) (r2 : Int) (r3 : List Int) (w : World) (hr0_2 : Kd.C (Kd.int .u8) w A0_2 l0_2.length l0_2) (hc0_2 : l0_2.length ≤ c0_2) (h : incunableref05_Part.f k a0_0 a0_1 l0_2 a1 a2 a3 a4 = some (r1, r2, r3)) :
  Calls Try.prog 65 #[.agg #[.int .i64 a0_0, .int .i64 a0_1, .slice A0_2 l0_2.length c0_2], .int .i64 a1, .int .i64 a2, .int .i64 a3, .int .i64 a4] w fun e w' => ∃ v2_ : Value, e = .returned (.agg #[.int .i64 r1, .int .i64 r2, v2_]) ∧ Kd.R (Kd.int .u8) 5 w' w.heap.size (fun _ => True) v2_ r3 ∧ Below w.heap.size w w' := by
 have hu24 := Try.underlying24
 have HR0_2 := Aside0.mk hr0_2
 have HC0_2 := Aside0.mk hc0_2
 clear hr0_2 hc0_2
 have HB := Aside0.mk (Below.refl w.heap.size w)
 have H : ((incunableref05_make2.f k a3 a4 0).bind fun bt340 => (incunableref05_Part.l0 k a1 a2 a3 a4 0 a0_0 a0_1 l0_2 bt340.1 bt340.2.1 bt340.2.2)) = some (r1, r2, r3) := h
 clear h
 replace H := Option.bind_eq_some_iff.mp H
 obtain ⟨⟨t340, t341, t342⟩, A60, H⟩ := H
 replace H : (incunableref05_Part.l0 k a1 a2 a3 a4 0 a0_0 a0_1 l0_2 t340 t341 t342) = some (r1, r2, r3) := H
 have A6 := Aside0.mk A60
 clear A60
 have H' := Aside0.mk H
 clear H
 go_enter Try.func65, Try.ntmps65
 go_wp2_with (first | ((with_reducible refine gd 5 rfl ?_); refine bx 5 #[.int .i64 a0_0, .int .i64 a0_1, .slice A0_2 l0_2.length c0_2] 24 rfl rfl ?_; intro gb338 hg w7 hbox hb; have n_ := aC (bs hb) (aC hbox (aC (gz hg) (aE (gz hg)))); clear HB; obtain ⟨HB, BK338, GW338, GE338⟩ := n_; clear hb hbox hg) | ((with_reducible refine gd 10 rfl ?_); refine bx 10 #[.int .i64 0, .int .i64 0, .slice none 0 0] 24 rfl rfl ?_; intro gb339 hg w8 hbox hb; have n_ := aC (blk_below (bU BK338.out) hb) (aC (bs hb) (aC hbox (aC (gz hg) (aC (gz hg) (aC (gn hg (bU BK338.out)) (aE (gm hg (bU BK338.out)))))))); clear BK338 HB; obtain ⟨BK338, HB, BK339, GW339, GE339, NB338_339, NB339_338⟩ := n_; clear hb hbox hg) | ((with_reducible refine gf 45 rfl ?_); refine gL (some 16) rfl rfl Try.func45 rfl #[.int .i64 a3, .int .i64 a4, .int .i64 0] rfl ?_; (with_reducible refine (incunableref05_make2.calls k a3 a4 0 t340 t341 t342 _ A6.out).mono ?_); rintro e w9 ⟨v343, rfl, ho0, hb⟩; refine ⟨_, rfl, ?_⟩; have n_ := aC (Kd.R_lower ho0 bz) (aC (blk_below (bU BK338.out) hb) (aC (blk_below (bU BK339.out) hb) (aE (bs hb)))); clear BK338 BK339 HB; obtain ⟨HO344, BK338, BK339, HB⟩ := n_; (try clear hb); (try clear ho0)) | ((with_reducible refine gd 11 rfl ?_); refine bx 11 #[.int .i64 0, .int .i64 0, .slice none 0 0] 24 rfl rfl ?_; intro gb345 hg w10 hbox hb; have n_ := aC (Kd.R_below (rU HO344.out) hb) (aC (blk_below (bU BK338.out) hb) (aC (blk_below (bU BK339.out) hb) (aC (bs hb) (aC hbox (aC (gz hg) (aC (gz hg) (aC (gn hg (bU BK338.out)) (aC (gm hg (bU BK338.out)) (aC (gn hg (bU BK339.out)) (aE (gm hg (bU BK339.out)))))))))))); clear HO344 BK338 BK339 HB; obtain ⟨HO344, BK338, BK339, HB, BK345, GW345, GE345, NB338_345, NB345_338, NB339_345, NB345_339⟩ := n_; clear hb hbox hg; have hnb11 := NB345_338.out; have hnc11 := NB338_345.out; have hnb12 := NB345_339.out; have hnc12 := NB339_345.out; obtain ⟨hcz13_0, hcz13_1, hcz13_2, hfz13_0, hfz13_1, hfz13_2⟩ := cz3f BK345.out; obtain ⟨Ao14, co14, eo14⟩ := Kd.R_slice HO344.out; subst eo14))
 go_loopg [12] k (fun kq v12 w' => ∃ (x12_1 : Int) (x346002_1 : List Int) (u346002 : Value), v12 = .int .i64 x12_1 ∧ Aside0 (incunableref05_Part.l0 kq a1 a2 a3 a4 x12_1 a0_0 a0_1 l0_2 t340 t341 x346002_1 = some (r1, r2, r3)) ∧ Aside0 (kq ≤ k) ∧ Aside0 (Kd.R (Kd.int .u8) 5 w' w.heap.size (fun _ => True) u346002 x346002_1) ∧ Aside0 (w'.heap[gb338]? = some (.cells #[.int .i64 a0_0, .int .i64 a0_1, (.slice A0_2 l0_2.length c0_2)] 24 (0, 0))) ∧ Aside0 (w'.heap[gb339]? = some (.cells #[.int .i64 0, .int .i64 0, (.slice none 0 0)] 24 (0, 0))) ∧ Aside0 (w'.heap[gb345]? = some (.cells #[.int .i64 t340, .int .i64 t341, u346002] 24 (0, 0))) ∧ Aside0 (Below w.heap.size w w'))
 case atStart => exact ⟨(0), (t342), (.slice Ao14 t342.length co14), rq, H', ⟨Nat.le_refl _⟩, ⟨rU (Kd.R_mono (Kd.R_far (p := ⟨gb345, 2, none⟩) (Kd.R_far (p := ⟨gb345, 1, none⟩) (Kd.R_far (p := ⟨gb345, 0, none⟩) (Kd.R_types HO344.out BK345.out (by decide)) (fun _ hk => hk.2) (.int .i64 t340)) (fun _ hk => hk.2) (.int .i64 t341)) (fun _ hk => hk.2) (.slice Ao14 t342.length co14)) (fun _ hk => trivial))⟩, ⟨by (with_reducible repeat (first | refine blk_drewN ?_ _ | refine blk_drew ?_ | refine blk_alloc ?_ _)); refine blk_far ?_ NB338_345.out _; (with_reducible repeat (first | refine blk_drewN ?_ _ | refine blk_drew ?_ | refine blk_alloc ?_ _)); refine blk_far ?_ NB338_345.out _; (with_reducible repeat (first | refine blk_drewN ?_ _ | refine blk_drew ?_ | refine blk_alloc ?_ _)); refine blk_far ?_ NB338_345.out _; (with_reducible repeat (first | refine blk_drewN ?_ _ | refine blk_drew ?_ | refine blk_alloc ?_ _)); exact BK338.out⟩, ⟨by (with_reducible repeat (first | refine blk_drewN ?_ _ | refine blk_drew ?_ | refine blk_alloc ?_ _)); refine blk_far ?_ NB339_345.out _; (with_reducible repeat (first | refine blk_drewN ?_ _ | refine blk_drew ?_ | refine blk_alloc ?_ _)); refine blk_far ?_ NB339_345.out _; (with_reducible repeat (first | refine blk_drewN ?_ _ | refine blk_drew ?_ | refine blk_alloc ?_ _)); refine blk_far ?_ NB339_345.out _; (with_reducible repeat (first | refine blk_drewN ?_ _ | refine blk_drew ?_ | refine blk_alloc ?_ _)); exact BK339.out⟩, ⟨by (with_reducible repeat (first | refine blk_drewN ?_ _ | refine blk_drew ?_ | refine blk_alloc ?_ _)); refine blk_put (cs := #[.int .i64 t340, .int .i64 t341, .slice none 0 0]) ?_ 2 _ rfl; (with_reducible repeat (first | refine blk_drewN ?_ _ | refine blk_drew ?_ | refine blk_alloc ?_ _)); refine blk_put (cs := #[.int .i64 t340, .int .i64 0, .slice none 0 0]) ?_ 1 _ rfl; (with_reducible repeat (first | refine blk_drewN ?_ _ | refine blk_drew ?_ | refine blk_alloc ?_ _)); refine blk_put (cs := #[.int .i64 0, .int .i64 0, .slice none 0 0]) ?_ 0 _ rfl; (with_reducible repeat (first | refine blk_drewN ?_ _ | refine blk_drew ?_ | refine blk_alloc ?_ _)); exact BK345.out⟩, ⟨bl⟩⟩
 case round =>
  clear H'
  obtain ⟨x12_1, x346002_1, u346002, rfl, HA, HK1, HO_346002, BK338, BK339, BK345, HB⟩ := hrel
  cases gk with
  | zero => exact absurd HA.out (by simp [incunableref05_Part.l0])
  | succ k1 =>
   have H := HA.out
   clear HA
   simp only [incunableref05_Part.l0] at H
   by_cases c15 : x12_1 < a4
   ·rw [if_pos c15] at H
    have c15b0 := decide_eq_true c15
    clear c15
    have H' := Aside0.mk H
    clear H
    go_wp2
    go_loopg [13] k1 (fun kq v13 w' => ∃ (x13_2 : Int) (x346002_2 : List Int) (u346002 : Value), v13 = .int .i64 x13_2 ∧ Aside0 (incunableref05_Part.l1 kq a1 a2 a3 a4 x12_1 x13_2 a0_0 a0_1 l0_2 t340 t341 x346002_2 = some (r1, r2, r3)) ∧ Aside0 (kq ≤ k1) ∧ Aside0 (Kd.R (Kd.int .u8) 5 w' w.heap.size (fun _ => True) u346002 x346002_2) ∧ Aside0 (w'.heap[gb338]? = some (.cells #[.int .i64 a0_0, .int .i64 a0_1, (.slice A0_2 l0_2.length c0_2)] 24 (0, 0))) ∧ Aside0 (w'.heap[gb339]? = some (.cells #[.int .i64 0, .int .i64 0, (.slice none 0 0)] 24 (0, 0))) ∧ Aside0 (w'.heap[gb345]? = some (.cells #[.int .i64 t340, .int .i64 t341, u346002] 24 (0, 0))) ∧ Aside0 (Below w.heap.size w w'))
    case atStart => exact ⟨(0), (x346002_1), (u346002), rq, H', ⟨Nat.le_refl _⟩, ⟨rU HO_346002.out⟩, ⟨bU BK338.out⟩, ⟨bU BK339.out⟩, ⟨bU BK345.out⟩, ⟨bl⟩⟩
    case round =>
     clear H'
     obtain ⟨x13_2, x346002_2, u346002, rfl, HA, HK2, HO_346002, BK338, BK339, BK345, HB⟩ := hrel
     cases gk with
     | zero => exact absurd HA.out (by simp [incunableref05_Part.l1])
     | succ k2 =>
      have H := HA.out
      clear HA
      simp only [incunableref05_Part.l1] at H
      by_cases c16 : x13_2 < a3
      ·rw [if_pos c16] at H
       have c16b0 := decide_eq_true c16
       clear c16
       replace H := Option.bind_eq_some_iff.mp H
       obtain ⟨t346, A170, H⟩ := H
       replace H : ((incunableref05_Put.f t340 t341 x346002_2 x13_2 x12_1 t346).bind fun t347 => (incunableref05_Part.l1 k2 a1 a2 a3 a4 x12_1 (wrap64 (x13_2 + 1)) a0_0 a0_1 l0_2 t340 t341 t347)) = some (r1, r2, r3) := H
       have A17 := Aside0.mk A170
       clear A170
       replace H := Option.bind_eq_some_iff.mp H
       obtain ⟨t347, A180, H⟩ := H
       replace H : (incunableref05_Part.l1 k2 a1 a2 a3 a4 x12_1 (wrap64 (x13_2 + 1)) a0_0 a0_1 l0_2 t340 t341 t347) = some (r1, r2, r3) := H
       have A18 := Aside0.mk A180
       clear A180
       have H' := Aside0.mk H
       clear H
       try go_wp2
       have n_ := aC (Kd.R_drew HO_346002.out) (aC (blk_drew BK338.out) (aC (blk_drew BK339.out) (aC (blk_drew BK345.out) (aE (below_drew1 HB.out)))))
       clear HO_346002 BK338 BK339 BK345 HB
       obtain ⟨HO_346002, BK338, BK339, BK345, HB⟩ := n_
       refine st 12 (fun w' => w'.cell? ⟨gb345, 0, none⟩ = some (.int .i64 t340) ∧ w'.cell? ⟨gb345, 1, none⟩ = some (.int .i64 t341) ∧ w'.cell? ⟨gb345, 2, none⟩ = some (u346002) ∧ w'.cell? ⟨gb338, 0, none⟩ = some (.int .i64 a0_0) ∧ w'.cell? ⟨gb338, 1, none⟩ = some (.int .i64 a0_1) ∧ w'.cell? ⟨gb338, 2, none⟩ = some (.slice A0_2 l0_2.length c0_2)) [] (bv 12 0) incunableref05_Part.tab8 incunableref05_Part.bits8 ⟨kc0 BK345.out, kc1 BK345.out, kc2 BK345.out, kc0 BK338.out, kc1 BK338.out, kc2 BK338.out⟩ (fun hHeld HT_ HW_ => ?_)
       generalize wr.drew = w19 at HO_346002 BK338 BK339 BK345 HB hHeld ⊢
       refine pu 1 28 (bv 12 2) HT_ rfl rfl ?_
       refine pu 2 29 (bv 12 6) HT_ rfl rfl ?_
       refine pu 4 31 (bv 12 22) HT_ rfl rfl ?_
       refine pu 5 32 (bv 12 54) HT_ rfl rfl ?_
       refine pu 6 33 (bv 12 118) HT_ rfl rfl ?_
       refine pu 7 34 (bv 12 246) HT_ rfl rfl ?_
       refine pu 8 35 (bv 12 502) HT_ rfl rfl ?_
       refine pu 9 36 (bv 12 1014) HT_ rfl rfl ?_
       refine tk 0 27 (bv 12 1015) HT_ HW_ hHeld rfl rfl (by rintro w' ⟨s0, s1, s2, s3, s4, s5⟩; exact yl) ?_
       refine tk 3 30 (bv 12 1023) HT_ HW_ hHeld rfl rfl (by rintro w' ⟨s0, s1, s2, s3, s4, s5⟩; exact yl) ?_
       refine one_ (i := 10) (N := some 37) (bv 12 2047) rfl rfl (one_of HT_.out (by kernel_rfl)) (by decide) (fun K hK => ?_)
       refine gK Try.func47 rfl #[.agg #[.int .i64 a0_0, .int .i64 a0_1, .slice A0_2 l0_2.length c0_2], .int .i64 (wrap64 (a1 + x13_2)), .int .i64 (wrap64 (a2 + x12_1))] rfl rfl ?_
       with_reducible refine (incunableref05_At.calls a0_0 a0_1 _ _ l0_2 (wrap64 (a1 + x13_2)) (wrap64 (a2 + x12_1)) t346 _ ?side1 ?side2 A17.out).mono ?_
       (case side1 => exact cU (Kd.C_below HR0_2.out HB.out))
       (case side2 => exact HC0_2.out)
       rintro e w20 ⟨rfl, hb⟩
       refine ⟨_, rfl, ?_⟩
       have n_ := aC (Kd.R_below (rU HO_346002.out) hb) (aC (blk_below (bU BK338.out) hb) (aC (blk_below (bU BK339.out) hb) (aC (blk_below (bU BK345.out) hb) (aE (bs hb)))))
       clear HO_346002 BK338 BK339 BK345 HB
       obtain ⟨HO_346002, BK338, BK339, BK345, HB⟩ := n_
       (try clear hb)
       (try clear hb2)
       (try clear hk)
       (try clear hi)
       obtain ⟨Ao21, co21, eo21⟩ := Kd.R_slice HO_346002.out
       (first | subst eo21 | (injection eo21 with f1_ f2_ f3_; have f4_ := f1_.symm; have f5_ := f3_.symm; clear f1_ f2_ f3_; subst f4_; subst f5_))
       refine hK.out _ _ ⟨kc0 BK345.out, kc1 BK345.out, kc2 BK345.out, kc0 BK338.out, kc1 BK338.out, kc2 BK338.out⟩ (fun hHeld => ?_)
       clear hK K
       refine nm (some 37) ?_
       refine one_ (i := 11) (N := some 38) (bv 12 4095) rfl rfl (one_of HT_.out (by kernel_rfl)) (by decide) (fun K hK => ?_)
       refine gK Try.func46 rfl #[.agg #[.int .i64 t340, .int .i64 t341, .slice Ao21 x346002_2.length co21], .int .i64 x13_2, .int .i64 x12_1, .int .i64 t346] rfl rfl ?_
       with_reducible refine (incunableref05_Put.calls t340 t341 (fun k_ => some k_ = (.slice Ao21 x346002_2.length co21 : Value).ownBlock) (.slice Ao21 x346002_2.length co21) x346002_2 x13_2 x12_1 t346 t347 w _ ?side1 ?side2 A18.out).mono ?_
       (case side1 => repeat (first | (with_reducible first | exact HB.out | apply below_alloc | apply pw_below_drewN | apply below_drew1 | refine below_set ?_ GE338.out | refine below_set ?_ GE339.out | refine below_set ?_ GE345.out) | exact HB.out))
       (case side2 => exact Kd.R_tight rfl HO_346002.out)
       rintro e w22 ⟨rfl, hy0, hb, hkp⟩
       refine ⟨_, rfl, ?_⟩
       have n_ := aC (Kd.R_reok rfl hy0 (fun k_ e_ => HO_346002.out.1 k_ e_)) (aC (blk_kept (bU BK338.out) hkp (fun hs_ => (fun e_ => (Kd.R_ne HO_346002.out BK338.out (by decide)) e_) hs_)) (aC (blk_kept (bU BK339.out) hkp (fun hs_ => (fun e_ => (Kd.R_ne HO_346002.out BK339.out (by decide)) e_) hs_)) (aC (blk_kept (bU BK345.out) hkp (fun hs_ => (fun e_ => (Kd.R_ne HO_346002.out BK345.out (by decide)) e_) hs_)) (aE hb))))
       clear HO_346002 BK338 BK339 BK345 HB
       obtain ⟨HO_346002, BK338, BK339, BK345, HB⟩ := n_
       (try clear hb)
       (try clear hkp)
       (try clear hy0)
       refine hK.out _ _ ⟨kc0 BK345.out, kc1 BK345.out, kc2 BK345.out, kc0 BK338.out, kc1 BK338.out, kc2 BK338.out⟩ (fun hHeld => ?_)
       clear hK K
       refine nm (some 38) ?_
       refine done_ (done_of HT_.out (by kernel_rfl)) ?_
       try go_wp2
       go_roundg k2
       case measure => have := HK1.out; have := HK2.out; omega
       case rel => exact ⟨(wrap64 (x13_2 + 1)), (t347), (.slice Ao21 x346002_2.length co21), rq, H', ⟨by have := HK1.out; have := HK2.out; omega⟩, ⟨rU HO_346002.out⟩, ⟨bU BK338.out⟩, ⟨bU BK339.out⟩, ⟨bU BK345.out⟩, ⟨bl⟩⟩
      ·rw [if_neg c16] at H
       have c16b0 := decide_eq_false c16
       clear c16
       have H' := Aside0.mk H
       clear H
       go_wp2
       go_roundg k2
       case measure => have := HK1.out; have := HK2.out; omega
       case rel => exact ⟨(wrap64 (x12_1 + 1)), (x346002_2), (u346002), rq, H', ⟨by have := HK1.out; have := HK2.out; omega⟩, ⟨rU HO_346002.out⟩, ⟨bU BK338.out⟩, ⟨bU BK339.out⟩, ⟨bU BK345.out⟩, ⟨bl⟩⟩
   ·rw [if_neg c15] at H
    have c15b0 := decide_eq_false c15
    clear c15
    simp only [Option.some.injEq, Prod.mk.injEq] at H
    obtain ⟨rfl, rfl, rfl⟩ := H
    have hnb23 := NB345_338.out
    have hnc23 := NB338_345.out
    have hnb24 := NB345_339.out
    have hnc24 := NB339_345.out
    obtain ⟨hcz25_0, hcz25_1, hcz25_2, hfz25_0, hfz25_1, hfz25_2⟩ := cz3f BK345.out
    have hnb26 := NB339_338.out
    have hnc26 := NB338_339.out
    obtain ⟨hcz27_0, hcz27_1, hcz27_2, hfz27_0, hfz27_1, hfz27_2⟩ := cz3f BK339.out
    obtain ⟨Ao28, co28, eo28⟩ := Kd.R_slice HO_346002.out
    subst eo28
    go_wp2
    refine bodyPost_ret (results_cell_row rfl _ _ gb339 24 #[.int .i64 t340, .int .i64 t341, .slice Ao28 x346002_1.length co28] (0, 0) _ rfl (by (with_reducible repeat (first | refine blk_drewN ?_ _ | refine blk_drew ?_ | refine blk_alloc ?_ _)); refine blk_put (cs := #[.int .i64 t340, .int .i64 t341, .slice none 0 0]) ?_ 2 _ rfl; (with_reducible repeat (first | refine blk_drewN ?_ _ | refine blk_drew ?_ | refine blk_alloc ?_ _)); refine blk_put (cs := #[.int .i64 t340, .int .i64 0, .slice none 0 0]) ?_ 1 _ rfl; (with_reducible repeat (first | refine blk_drewN ?_ _ | refine blk_drew ?_ | refine blk_alloc ?_ _)); refine blk_put (cs := #[.int .i64 0, .int .i64 0, .slice none 0 0]) ?_ 0 _ rfl; (with_reducible repeat (first | refine blk_drewN ?_ _ | refine blk_drew ?_ | refine blk_alloc ?_ _)); exact BK339.out) Try.underlying24 rfl (by kernel_rfl)) rfl ?_
    exact ⟨_, re, rU (Kd.R_mono (Kd.R_far (p := ⟨gb339, 2, none⟩) (Kd.R_far (p := ⟨gb339, 1, none⟩) (Kd.R_far (p := ⟨gb339, 0, none⟩) (Kd.R_types HO_346002.out BK339.out (by decide)) (fun _ hk => hk.2) (.int .i64 t340)) (fun _ hk => hk.2) (.int .i64 t341)) (fun _ hk => hk.2) (.slice Ao28 x346002_1.length co28)) (fun _ hk => trivial)), bl⟩

/-! ### incunableref05_Trim: function 34 -/
mutual
def incunableref05_Trim.l0 : Nat → Int → Int → Int → Int → Int → Int → Int → List Int → Option (Int × Int × List Int × Int × Int × Int)
 | 0, _, _, _, _, _, _, _, _ => none
 | k + 1, x6, x7, x8, x9, x10, x349000, x349001, x349002 => if x10 < x349001 then (incunableref05_Trim.l1 k x6 x7 x8 x9 x10 0 x349000 x349001 x349002) else (if x8 < 0 then (some (0, 0, ([] : List Int), 0, 0, 0)) else ((incunableref05_Part.f k x349000 x349001 x349002 x6 x7 (wrap64 ((wrap64 (x8 - x6)) + 1)) (wrap64 ((wrap64 (x9 - x7)) + 1))).bind fun bt351 => (some (bt351.1, bt351.2.1, bt351.2.2, x6, x7, 0))))
def incunableref05_Trim.l1 : Nat → Int → Int → Int → Int → Int → Int → Int → Int → List Int → Option (Int × Int × List Int × Int × Int × Int)
 | 0, _, _, _, _, _, _, _, _, _ => none
 | k + 1, x6, x7, x8, x9, x10, x11, x349000, x349001, x349002 => if x11 < x349000 then ((incunableref05_At.f x349000 x349001 x349002 x11 x10).bind fun t356 => (if t356 = 1 then (incunableref05_Trim.l1 k (mn x6 x11) (mn x7 x10) (mx x8 x11) (mx x9 x10) x10 (wrap64 (x11 + 1)) x349000 x349001 x349002) else (incunableref05_Trim.l1 k x6 x7 x8 x9 x10 (wrap64 (x11 + 1)) x349000 x349001 x349002))) else (incunableref05_Trim.l0 k x6 x7 x8 x9 (wrap64 (x10 + 1)) x349000 x349001 x349002)
end
def incunableref05_Trim.f (k : Nat) (a0_0 : Int) (a0_1 : Int) (l0_2 : List Int) : Option (Int × Int × List Int × Int × Int × Int) := (incunableref05_Valid.f k a0_0 a0_1 l0_2).bind fun t350 => (if t350 = true then (incunableref05_Trim.l0 k a0_0 a0_1 (-1) (-1) 0 a0_0 a0_1 l0_2) else (some (0, 0, ([] : List Int), 0, 0, 30)))
theorem incunableref05_Trim.mono_l : ∀ k, (∀ y0 y1 y2 y3 y4 y5 y6 y7, LeO (incunableref05_Trim.l0 k y0 y1 y2 y3 y4 y5 y6 y7) (incunableref05_Trim.l0 (k + 1) y0 y1 y2 y3 y4 y5 y6 y7)) ∧ (∀ y0 y1 y2 y3 y4 y5 y6 y7 y8, LeO (incunableref05_Trim.l1 k y0 y1 y2 y3 y4 y5 y6 y7 y8) (incunableref05_Trim.l1 (k + 1) y0 y1 y2 y3 y4 y5 y6 y7 y8))
 | 0 => ⟨fun _ _ _ _ _ _ _ _ r h => by simp [incunableref05_Trim.l0] at h, fun _ _ _ _ _ _ _ _ _ r h => by simp [incunableref05_Trim.l1] at h⟩
 | k + 1 => by
  obtain ⟨ih0, ih1⟩ := incunableref05_Trim.mono_l k
  refine ⟨?_, ?_⟩
  ·intro y0 y1 y2 y3 y4 y5 y6 y7
   unfold incunableref05_Trim.l0
   repeat' first
   | (with_reducible exact ih0 _ _ _ _ _ _ _ _)
   | (with_reducible exact ih1 _ _ _ _ _ _ _ _ _)
   | (with_reducible exact incunableref05_Part.mono _ _ _ _ _ _ _ _)
   | (with_reducible exact incunableref05_Valid.mono _ _ _ _)
   | (with_reducible first | exact LeO.refl _ | exact LeO.none _ | refine LeO.ite ?_ ?_ | refine LeO.bind ?_ (fun _ => ?_))
   | exact ih0 _ _ _ _ _ _ _ _
   | exact ih1 _ _ _ _ _ _ _ _ _
   | exact incunableref05_Part.mono _ _ _ _ _ _ _ _
   | exact incunableref05_Valid.mono _ _ _ _
   | exact LeO.none _ | refine LeO.ite ?_ ?_ | refine LeO.bind ?_ (fun _ => ?_)
  ·intro y0 y1 y2 y3 y4 y5 y6 y7 y8
   unfold incunableref05_Trim.l1
   repeat' first
   | (with_reducible exact ih0 _ _ _ _ _ _ _ _)
   | (with_reducible exact ih1 _ _ _ _ _ _ _ _ _)
   | (with_reducible exact incunableref05_Part.mono _ _ _ _ _ _ _ _)
   | (with_reducible exact incunableref05_Valid.mono _ _ _ _)
   | (with_reducible first | exact LeO.refl _ | exact LeO.none _ | refine LeO.ite ?_ ?_ | refine LeO.bind ?_ (fun _ => ?_))
   | exact ih0 _ _ _ _ _ _ _ _
   | exact ih1 _ _ _ _ _ _ _ _ _
   | exact incunableref05_Part.mono _ _ _ _ _ _ _ _
   | exact incunableref05_Valid.mono _ _ _ _
   | exact LeO.none _ | refine LeO.ite ?_ ?_ | refine LeO.bind ?_ (fun _ => ?_)
theorem incunableref05_Trim.mono : ∀ a0 a1 a2 k, LeO (incunableref05_Trim.f k a0 a1 a2) (incunableref05_Trim.f (k + 1) a0 a1 a2) := by
 intro a0 a1 a2 k
 obtain ⟨ih0, ih1⟩ := incunableref05_Trim.mono_l k
 unfold incunableref05_Trim.f
 repeat' first
   | (with_reducible exact ih0 _ _ _ _ _ _ _ _)
   | (with_reducible exact ih1 _ _ _ _ _ _ _ _ _)
   | (with_reducible exact incunableref05_Part.mono _ _ _ _ _ _ _ _)
   | (with_reducible exact incunableref05_Valid.mono _ _ _ _)
   | (with_reducible first | exact LeO.refl _ | exact LeO.none _ | refine LeO.ite ?_ ?_ | refine LeO.bind ?_ (fun _ => ?_))
   | exact ih0 _ _ _ _ _ _ _ _
   | exact ih1 _ _ _ _ _ _ _ _ _
   | exact incunableref05_Part.mono _ _ _ _ _ _ _ _
   | exact incunableref05_Valid.mono _ _ _ _
   | exact LeO.none _ | refine LeO.ite ?_ ?_ | refine LeO.bind ?_ (fun _ => ?_)
set_option maxHeartbeats 8000000 in
set_option maxRecDepth 100000 in
theorem incunableref05_Trim.calls (k : Nat) (a0_0 : Int) (a0_1 : Int) (A0_2 : Option Addr) (c0_2 : Nat) (l0_2 : List Int) (r1 : Int) (r2 : Int) (r3 : List Int) (r4 : Int) (r5 : Int) (r6 : Int) (w : World) (hr0_2 : Kd.C (Kd.int .u8) w A0_2 l0_2.length l0_2) (hc0_2 : l0_2.length ≤ c0_2) (h : incunableref05_Trim.f k a0_0 a0_1 l0_2 = some (r1, r2, r3, r4, r5, r6)) :
  Calls Try.prog 34 #[.agg #[.int .i64 a0_0, .int .i64 a0_1, .slice A0_2 l0_2.length c0_2]] w fun e w' => ∃ v2_ : Value, e = .returned (.tuple #[.agg #[.int .i64 r1, .int .i64 r2, v2_], .int .i64 r4, .int .i64 r5, .int .i64 r6]) ∧ Kd.R (Kd.int .u8) 5 w' w.heap.size (fun _ => True) v2_ r3 ∧ Below w.heap.size w w' := by
 have hu24 := Try.underlying24
 have HR0_2 := Aside0.mk hr0_2
 have HC0_2 := Aside0.mk hc0_2
 clear hr0_2 hc0_2
 have HB := Aside0.mk (Below.refl w.heap.size w)
 have H : ((incunableref05_Valid.f k a0_0 a0_1 l0_2).bind fun t350 => (if t350 = true then (incunableref05_Trim.l0 k a0_0 a0_1 (-1) (-1) 0 a0_0 a0_1 l0_2) else (some (0, 0, ([] : List Int), 0, 0, 30)))) = some (r1, r2, r3, r4, r5, r6) := h
 clear h
 replace H := Option.bind_eq_some_iff.mp H
 obtain ⟨t350, A20, H⟩ := H
 replace H : (if t350 = true then (incunableref05_Trim.l0 k a0_0 a0_1 (-1) (-1) 0 a0_0 a0_1 l0_2) else (some (0, 0, ([] : List Int), 0, 0, 30))) = some (r1, r2, r3, r4, r5, r6) := H
 have A2 := Aside0.mk A20
 clear A20
 by_cases c3 : t350 = true
 ·subst c3
  have H1 : (incunableref05_Trim.l0 k a0_0 a0_1 (-1) (-1) 0 a0_0 a0_1 l0_2) = some (r1, r2, r3, r4, r5, r6) := by rw [if_pos rfl] at H; exact H
  clear H
  have H := H1
  clear H1
  have H' := Aside0.mk H
  clear H
  go_enter Try.func34, Try.ntmps34
  go_wp2_with (first | ((with_reducible refine gd 1 rfl ?_); refine bx 1 #[.int .i64 a0_0, .int .i64 a0_1, .slice A0_2 l0_2.length c0_2] 24 rfl rfl ?_; intro gb348 hg w4 hbox hb; have n_ := aC (bs hb) (aC hbox (aC (gz hg) (aE (gz hg)))); clear HB; obtain ⟨HB, BK348, GW348, GE348⟩ := n_; clear hb hbox hg) | ((with_reducible refine gd 2 rfl ?_); refine bx 2 #[.int .i64 0, .int .i64 0, .slice none 0 0] 24 rfl rfl ?_; intro gb349 hg w5 hbox hb; have n_ := aC (blk_below (bU BK348.out) hb) (aC (bs hb) (aC hbox (aC (gz hg) (aC (gz hg) (aC (gn hg (bU BK348.out)) (aE (gm hg (bU BK348.out)))))))); clear BK348 HB; obtain ⟨BK348, HB, BK349, GW349, GE349, NB348_349, NB349_348⟩ := n_; clear hb hbox hg; have hnb6 := NB348_349.out; have hnc6 := NB349_348.out; obtain ⟨hcz7_0, hcz7_1, hcz7_2, hfz7_0, hfz7_1, hfz7_2⟩ := cz3f BK348.out) | (go_at_call 33; (with_reducible refine (incunableref05_Valid.calls k a0_0 a0_1 _ _ l0_2 true _ ?side1 ?side2 A2.out).mono ?_); (case side1 => exact cU (Kd.C_below HR0_2.out HB.out)); (case side2 => exact HC0_2.out); rintro e w8 ⟨rfl, hb⟩; have n_ := aC (blk_below (bU BK348.out) hb) (aC (blk_below (bU BK349.out) hb) (aE (bs hb))); clear BK348 BK349 HB; obtain ⟨BK348, BK349, HB⟩ := n_; (try clear hb); obtain ⟨hcz9_0, hcz9_1, hcz9_2, hfz9_0, hfz9_1, hfz9_2⟩ := cz3f BK348.out))
  repeat (go_quiet (first | ((with_reducible refine gd 1 rfl ?_); refine bx 1 #[.int .i64 a0_0, .int .i64 a0_1, .slice A0_2 l0_2.length c0_2] 24 rfl rfl ?_; intro gb348 hg w4 hbox hb; have n_ := aC (bs hb) (aC hbox (aC (gz hg) (aE (gz hg)))); clear HB; obtain ⟨HB, BK348, GW348, GE348⟩ := n_; clear hb hbox hg) | ((with_reducible refine gd 2 rfl ?_); refine bx 2 #[.int .i64 0, .int .i64 0, .slice none 0 0] 24 rfl rfl ?_; intro gb349 hg w5 hbox hb; have n_ := aC (blk_below (bU BK348.out) hb) (aC (bs hb) (aC hbox (aC (gz hg) (aC (gz hg) (aC (gn hg (bU BK348.out)) (aE (gm hg (bU BK348.out)))))))); clear BK348 HB; obtain ⟨BK348, HB, BK349, GW349, GE349, NB348_349, NB349_348⟩ := n_; clear hb hbox hg; have hnb6 := NB348_349.out; have hnc6 := NB349_348.out; obtain ⟨hcz7_0, hcz7_1, hcz7_2, hfz7_0, hfz7_1, hfz7_2⟩ := cz3f BK348.out) | (go_at_call 33; (with_reducible refine (incunableref05_Valid.calls k a0_0 a0_1 _ _ l0_2 true _ ?side1 ?side2 A2.out).mono ?_); (case side1 => exact cU (Kd.C_below HR0_2.out HB.out)); (case side2 => exact HC0_2.out); rintro e w8 ⟨rfl, hb⟩; have n_ := aC (blk_below (bU BK348.out) hb) (aC (blk_below (bU BK349.out) hb) (aE (bs hb))); clear BK348 BK349 HB; obtain ⟨BK348, BK349, HB⟩ := n_; (try clear hb); obtain ⟨hcz9_0, hcz9_1, hcz9_2, hfz9_0, hfz9_1, hfz9_2⟩ := cz3f BK348.out)); try go_wp2_with (first | ((with_reducible refine gd 1 rfl ?_); refine bx 1 #[.int .i64 a0_0, .int .i64 a0_1, .slice A0_2 l0_2.length c0_2] 24 rfl rfl ?_; intro gb348 hg w4 hbox hb; have n_ := aC (bs hb) (aC hbox (aC (gz hg) (aE (gz hg)))); clear HB; obtain ⟨HB, BK348, GW348, GE348⟩ := n_; clear hb hbox hg) | ((with_reducible refine gd 2 rfl ?_); refine bx 2 #[.int .i64 0, .int .i64 0, .slice none 0 0] 24 rfl rfl ?_; intro gb349 hg w5 hbox hb; have n_ := aC (blk_below (bU BK348.out) hb) (aC (bs hb) (aC hbox (aC (gz hg) (aC (gz hg) (aC (gn hg (bU BK348.out)) (aE (gm hg (bU BK348.out)))))))); clear BK348 HB; obtain ⟨BK348, HB, BK349, GW349, GE349, NB348_349, NB349_348⟩ := n_; clear hb hbox hg; have hnb6 := NB348_349.out; have hnc6 := NB349_348.out; obtain ⟨hcz7_0, hcz7_1, hcz7_2, hfz7_0, hfz7_1, hfz7_2⟩ := cz3f BK348.out) | (go_at_call 33; (with_reducible refine (incunableref05_Valid.calls k a0_0 a0_1 _ _ l0_2 true _ ?side1 ?side2 A2.out).mono ?_); (case side1 => exact cU (Kd.C_below HR0_2.out HB.out)); (case side2 => exact HC0_2.out); rintro e w8 ⟨rfl, hb⟩; have n_ := aC (blk_below (bU BK348.out) hb) (aC (blk_below (bU BK349.out) hb) (aE (bs hb))); clear BK348 BK349 HB; obtain ⟨BK348, BK349, HB⟩ := n_; (try clear hb); obtain ⟨hcz9_0, hcz9_1, hcz9_2, hfz9_0, hfz9_1, hfz9_2⟩ := cz3f BK348.out)))
  go_loopg [6, 7, 8, 9, 10] k (fun kq v6 v7 v8 v9 v10 w' => ∃ (x6_1 : Int) (x7_1 : Int) (x8_1 : Int) (x9_1 : Int) (x10_1 : Int), v6 = .int .i64 x6_1 ∧ v7 = .int .i64 x7_1 ∧ v8 = .int .i64 x8_1 ∧ v9 = .int .i64 x9_1 ∧ v10 = .int .i64 x10_1 ∧ Aside0 (incunableref05_Trim.l0 kq x6_1 x7_1 x8_1 x9_1 x10_1 a0_0 a0_1 l0_2 = some (r1, r2, r3, r4, r5, r6)) ∧ Aside0 (kq ≤ k) ∧ Aside0 (w'.heap[gb348]? = some (.cells #[.int .i64 a0_0, .int .i64 a0_1, (.slice A0_2 l0_2.length c0_2)] 24 (0, 0))) ∧ Aside0 (w'.heap[gb349]? = some (.cells #[.int .i64 0, .int .i64 0, (.slice none 0 0)] 24 (0, 0))) ∧ Aside0 (Below w.heap.size w w'))
  case atStart => exact ⟨(a0_0), (a0_1), ((-1)), ((-1)), (0), rq, rq, rq, rq, rq, H', ⟨Nat.le_refl _⟩, ⟨bU BK348.out⟩, ⟨bU BK349.out⟩, ⟨bl⟩⟩
  case round =>
   clear H'
   obtain ⟨x6_1, x7_1, x8_1, x9_1, x10_1, rfl, rfl, rfl, rfl, rfl, HA, HK1, BK348, BK349, HB⟩ := hrel
   cases gk with
   | zero => exact absurd HA.out (by simp [incunableref05_Trim.l0])
   | succ k1 =>
    have H := HA.out
    clear HA
    simp only [incunableref05_Trim.l0] at H
    by_cases c10 : x10_1 < a0_1
    ·rw [if_pos c10] at H
     have c10b0 := decide_eq_true c10
     clear c10
     have H' := Aside0.mk H
     clear H
     have hnb11 := NB348_349.out
     have hnc11 := NB349_348.out
     obtain ⟨hcz12_0, hcz12_1, hcz12_2, hfz12_0, hfz12_1, hfz12_2⟩ := cz3f BK348.out
     go_wp2
     go_loopg [6, 7, 8, 9, 11] k1 (fun kq v6 v7 v8 v9 v11 w' => ∃ (x6_2 : Int) (x7_2 : Int) (x8_2 : Int) (x9_2 : Int) (x11_2 : Int), v6 = .int .i64 x6_2 ∧ v7 = .int .i64 x7_2 ∧ v8 = .int .i64 x8_2 ∧ v9 = .int .i64 x9_2 ∧ v11 = .int .i64 x11_2 ∧ Aside0 (incunableref05_Trim.l1 kq x6_2 x7_2 x8_2 x9_2 x10_1 x11_2 a0_0 a0_1 l0_2 = some (r1, r2, r3, r4, r5, r6)) ∧ Aside0 (kq ≤ k1) ∧ Aside0 (w'.heap[gb348]? = some (.cells #[.int .i64 a0_0, .int .i64 a0_1, (.slice A0_2 l0_2.length c0_2)] 24 (0, 0))) ∧ Aside0 (w'.heap[gb349]? = some (.cells #[.int .i64 0, .int .i64 0, (.slice none 0 0)] 24 (0, 0))) ∧ Aside0 (Below w.heap.size w w'))
     case atStart => exact ⟨(x6_1), (x7_1), (x8_1), (x9_1), (0), rq, rq, rq, rq, rq, H', ⟨Nat.le_refl _⟩, ⟨bU BK348.out⟩, ⟨bU BK349.out⟩, ⟨bl⟩⟩
     case round =>
      clear H'
      obtain ⟨x6_2, x7_2, x8_2, x9_2, x11_2, rfl, rfl, rfl, rfl, rfl, HA, HK2, BK348, BK349, HB⟩ := hrel
      cases gk with
      | zero => exact absurd HA.out (by simp [incunableref05_Trim.l1])
      | succ k2 =>
       have H := HA.out
       clear HA
       simp only [incunableref05_Trim.l1] at H
       by_cases c13 : x11_2 < a0_0
       ·rw [if_pos c13] at H
        have c13b0 := decide_eq_true c13
        clear c13
        replace H := Option.bind_eq_some_iff.mp H
        obtain ⟨t356, A140, H⟩ := H
        replace H : (if t356 = 1 then (incunableref05_Trim.l1 k2 (mn x6_2 x11_2) (mn x7_2 x10_1) (mx x8_2 x11_2) (mx x9_2 x10_1) x10_1 (wrap64 (x11_2 + 1)) a0_0 a0_1 l0_2) else (incunableref05_Trim.l1 k2 x6_2 x7_2 x8_2 x9_2 x10_1 (wrap64 (x11_2 + 1)) a0_0 a0_1 l0_2)) = some (r1, r2, r3, r4, r5, r6) := H
        have A14 := Aside0.mk A140
        clear A140
        by_cases c15 : t356 = 1
        ·rw [if_pos c15] at H
         have c15b0 := beq_iff_eq.mpr c15
         have c15b1 := bne_eq_false_iff_eq.mpr c15
         clear c15
         obtain ⟨ji16, hji16⟩ : ∃ j_ : Int, (mn x6_2 x11_2) = j_ := ⟨_, rfl⟩
         replace H : (incunableref05_Trim.l1 k2 ji16 (mn x7_2 x10_1) (mx x8_2 x11_2) (mx x9_2 x10_1) x10_1 (wrap64 (x11_2 + 1)) a0_0 a0_1 l0_2) = some (r1, r2, r3, r4, r5, r6) := by first | (rw [hji16] at H; exact H) | (simp only [hji16] at H ⊢; exact H)
         (try rw [hji16] at A14)
         have hji16_ : (if x11_2 < x6_2 then x11_2 else x6_2) = ji16 := hji16
         obtain ⟨ji17, hji17⟩ : ∃ j_ : Int, (mn x7_2 x10_1) = j_ := ⟨_, rfl⟩
         replace H : (incunableref05_Trim.l1 k2 ji16 ji17 (mx x8_2 x11_2) (mx x9_2 x10_1) x10_1 (wrap64 (x11_2 + 1)) a0_0 a0_1 l0_2) = some (r1, r2, r3, r4, r5, r6) := by first | (rw [hji17] at H; exact H) | (simp only [hji17] at H ⊢; exact H)
         (try rw [hji17] at A14)
         have hji17_ : (if x10_1 < x7_2 then x10_1 else x7_2) = ji17 := hji17
         obtain ⟨ji18, hji18⟩ : ∃ j_ : Int, (mx x8_2 x11_2) = j_ := ⟨_, rfl⟩
         replace H : (incunableref05_Trim.l1 k2 ji16 ji17 ji18 (mx x9_2 x10_1) x10_1 (wrap64 (x11_2 + 1)) a0_0 a0_1 l0_2) = some (r1, r2, r3, r4, r5, r6) := by first | (rw [hji18] at H; exact H) | (simp only [hji18] at H ⊢; exact H)
         (try rw [hji18] at A14)
         have hji18_ : (if x8_2 < x11_2 then x11_2 else x8_2) = ji18 := hji18
         obtain ⟨ji19, hji19⟩ : ∃ j_ : Int, (mx x9_2 x10_1) = j_ := ⟨_, rfl⟩
         replace H : (incunableref05_Trim.l1 k2 ji16 ji17 ji18 ji19 x10_1 (wrap64 (x11_2 + 1)) a0_0 a0_1 l0_2) = some (r1, r2, r3, r4, r5, r6) := by first | (rw [hji19] at H; exact H) | (simp only [hji19] at H ⊢; exact H)
         (try rw [hji19] at A14)
         have hji19_ : (if x9_2 < x10_1 then x10_1 else x9_2) = ji19 := hji19
         have H' := Aside0.mk H
         clear H
         have hnb20 := NB348_349.out
         have hnc20 := NB349_348.out
         obtain ⟨hcz21_0, hcz21_1, hcz21_2, hfz21_0, hfz21_1, hfz21_2⟩ := cz3f BK348.out
         go_wp2_with (first | (go_at_call 47; (with_reducible refine (incunableref05_At.calls a0_0 a0_1 _ _ l0_2 x11_2 x10_1 t356 _ ?side1 ?side2 A14.out).mono ?_); (case side1 => exact cU (Kd.C_below HR0_2.out HB.out)); (case side2 => exact HC0_2.out); rintro e w22 ⟨rfl, hb⟩; have n_ := aC (blk_below (bU BK348.out) hb) (aC (blk_below (bU BK349.out) hb) (aE (bs hb))); clear BK348 BK349 HB; obtain ⟨BK348, BK349, HB⟩ := n_; (try clear hb)))
         go_roundg k2
         case measure => have := HK1.out; have := HK2.out; omega
         case rel => exact ⟨(ji16), (ji17), (ji18), (ji19), (wrap64 (x11_2 + 1)), (by first | rfl | (simp; done) | (simp only [← hji16] <;> (first | rfl | simp)) | (simp [*]; done)), (by first | rfl | (simp; done) | (simp only [← hji17] <;> (first | rfl | simp)) | (simp [*]; done)), (by first | rfl | (simp; done) | (simp only [← hji18] <;> (first | rfl | simp)) | (simp [*]; done)), (by first | rfl | (simp; done) | (simp only [← hji19] <;> (first | rfl | simp)) | (simp [*]; done)), rq, H', ⟨by have := HK1.out; have := HK2.out; omega⟩, ⟨bU BK348.out⟩, ⟨bU BK349.out⟩, ⟨bl⟩⟩
        ·rw [if_neg c15] at H
         have c15b0 := beq_eq_false_iff_ne.mpr c15
         have c15b1 := bne_iff_ne.mpr c15
         have H' := Aside0.mk H
         clear H
         have hnb23 := NB348_349.out
         have hnc23 := NB349_348.out
         obtain ⟨hcz24_0, hcz24_1, hcz24_2, hfz24_0, hfz24_1, hfz24_2⟩ := cz3f BK348.out
         go_wp2_with (first | (go_at_call 47; (with_reducible refine (incunableref05_At.calls a0_0 a0_1 _ _ l0_2 x11_2 x10_1 t356 _ ?side1 ?side2 A14.out).mono ?_); (case side1 => exact cU (Kd.C_below HR0_2.out HB.out)); (case side2 => exact HC0_2.out); rintro e w25 ⟨rfl, hb⟩; have n_ := aC (blk_below (bU BK348.out) hb) (aC (blk_below (bU BK349.out) hb) (aE (bs hb))); clear BK348 BK349 HB; obtain ⟨BK348, BK349, HB⟩ := n_; (try clear hb)))
         go_roundg k2
         case measure => have := HK1.out; have := HK2.out; omega
         case rel => exact ⟨(x6_2), (x7_2), (x8_2), (x9_2), (wrap64 (x11_2 + 1)), rq, rq, rq, rq, rq, H', ⟨by have := HK1.out; have := HK2.out; omega⟩, ⟨bU BK348.out⟩, ⟨bU BK349.out⟩, ⟨bl⟩⟩
       ·rw [if_neg c13] at H
        have c13b0 := decide_eq_false c13
        clear c13
        have H' := Aside0.mk H
        clear H
        have hnb26 := NB348_349.out
        have hnc26 := NB349_348.out
        obtain ⟨hcz27_0, hcz27_1, hcz27_2, hfz27_0, hfz27_1, hfz27_2⟩ := cz3f BK348.out
        go_wp2
        go_roundg k2
        case measure => have := HK1.out; have := HK2.out; omega
        case rel => exact ⟨(x6_2), (x7_2), (x8_2), (x9_2), (wrap64 (x10_1 + 1)), rq, rq, rq, rq, rq, H', ⟨by have := HK1.out; have := HK2.out; omega⟩, ⟨bU BK348.out⟩, ⟨bU BK349.out⟩, ⟨bl⟩⟩
    ·rw [if_neg c10] at H
     have c10b0 := decide_eq_false c10
     clear c10
     by_cases c28 : x8_1 < 0
     ·rw [if_pos c28] at H
      have c28b0 := decide_eq_true c28
      clear c28
      simp only [Option.some.injEq, Prod.mk.injEq] at H
      obtain ⟨rfl, rfl, rfl, rfl, rfl, rfl⟩ := H
      have hnb29 := NB348_349.out
      have hnc29 := NB349_348.out
      obtain ⟨hcz30_0, hcz30_1, hcz30_2, hfz30_0, hfz30_1, hfz30_2⟩ := cz3f BK348.out
      obtain ⟨hcz31_0, hcz31_1, hcz31_2, hfz31_0, hfz31_1, hfz31_2⟩ := cz3f BK349.out
      go_wp2
      refine bodyPost_ret (results_list (rs := [.cell 2 24, .tmp 3, .tmp 4, .tmp 5]) rfl (by simp) (.cell gb349 24 #[.int .i64 0, .int .i64 0, .slice none 0 0] (0, 0) _ rfl (by (with_reducible repeat (first | refine blk_drewN ?_ _ | refine blk_drew ?_ | refine blk_alloc ?_ _)); refine blk_put (cs := #[.int .i64 0, .int .i64 0, .slice none 0 0]) ?_ 2 _ rfl; (with_reducible repeat (first | refine blk_drewN ?_ _ | refine blk_drew ?_ | refine blk_alloc ?_ _)); refine blk_put (cs := #[.int .i64 0, .int .i64 0, .slice none 0 0]) ?_ 1 _ rfl; (with_reducible repeat (first | refine blk_drewN ?_ _ | refine blk_drew ?_ | refine blk_alloc ?_ _)); refine blk_put (cs := #[.int .i64 0, .int .i64 0, .slice none 0 0]) ?_ 0 _ rfl; (with_reducible repeat (first | refine blk_drewN ?_ _ | refine blk_drew ?_ | refine blk_alloc ?_ _)); exact BK349.out) Try.underlying24 rfl (by kernel_rfl) (.tmp (.tmp (.tmp .nil))))) rfl ?_
      exact ⟨_, re, by first | exact Kd.R_nil _ _ _ _ _ | exact Kd.N_nil _ _ _ _ _ | exact Kd.V_nil _ _ _ _ _ | exact Kd.Q_nil _ _ _ _ _ | exact Kd.S_nil _ _ _ _ _, bl⟩
     ·rw [if_neg c28] at H
      have c28b0 := decide_eq_false c28
      clear c28
      replace H := Option.bind_eq_some_iff.mp H
      obtain ⟨⟨t351, t352, t353⟩, A320, H⟩ := H
      replace H : (some (t351, t352, t353, x6_1, x7_1, 0)) = some (r1, r2, r3, r4, r5, r6) := H
      have A32 := Aside0.mk A320
      clear A320
      simp only [Option.some.injEq, Prod.mk.injEq] at H
      obtain ⟨rfl, rfl, rfl, rfl, rfl, rfl⟩ := H
      have hnb33 := NB348_349.out
      have hnc33 := NB349_348.out
      obtain ⟨hcz34_0, hcz34_1, hcz34_2, hfz34_0, hfz34_1, hfz34_2⟩ := cz3f BK348.out
      go_wp2_with (first | (go_at_call 65; (with_reducible refine (incunableref05_Part.calls k1 a0_0 a0_1 _ _ l0_2 x6_1 x7_1 (wrap64 ((wrap64 (x8_1 - x6_1)) + 1)) (wrap64 ((wrap64 (x9_1 - x7_1)) + 1)) t351 t352 t353 _ ?side1 ?side2 A32.out).mono ?_); (case side1 => exact cU (Kd.C_below HR0_2.out HB.out)); (case side2 => exact HC0_2.out); rintro e w35 ⟨v354, rfl, ho0, hb⟩; have n_ := aC (Kd.R_lower ho0 bz) (aC (blk_below (bU BK348.out) hb) (aC (blk_below (bU BK349.out) hb) (aE (bs hb)))); clear BK348 BK349 HB; obtain ⟨HO355, BK348, BK349, HB⟩ := n_; (try clear hb); (try clear ho0); obtain ⟨hcz36_0, hcz36_1, hcz36_2, hfz36_0, hfz36_1, hfz36_2⟩ := cz3f BK349.out; obtain ⟨Ao37, co37, eo37⟩ := Kd.R_slice HO355.out; subst eo37))
      refine bodyPost_ret (results_list (rs := [.cell 2 24, .tmp 3, .tmp 4, .tmp 5]) rfl (by simp) (.cell gb349 24 #[.int .i64 t351, .int .i64 t352, .slice Ao37 t353.length co37] (0, 0) _ rfl (by (with_reducible repeat (first | refine blk_drewN ?_ _ | refine blk_drew ?_ | refine blk_alloc ?_ _)); refine blk_put (cs := #[.int .i64 t351, .int .i64 t352, .slice none 0 0]) ?_ 2 _ rfl; (with_reducible repeat (first | refine blk_drewN ?_ _ | refine blk_drew ?_ | refine blk_alloc ?_ _)); refine blk_put (cs := #[.int .i64 t351, .int .i64 0, .slice none 0 0]) ?_ 1 _ rfl; (with_reducible repeat (first | refine blk_drewN ?_ _ | refine blk_drew ?_ | refine blk_alloc ?_ _)); refine blk_put (cs := #[.int .i64 0, .int .i64 0, .slice none 0 0]) ?_ 0 _ rfl; (with_reducible repeat (first | refine blk_drewN ?_ _ | refine blk_drew ?_ | refine blk_alloc ?_ _)); exact BK349.out) Try.underlying24 rfl (by kernel_rfl) (.tmp (.tmp (.tmp .nil))))) rfl ?_
      exact ⟨_, re, rU (Kd.R_mono (Kd.R_far (p := ⟨gb349, 2, none⟩) (Kd.R_far (p := ⟨gb349, 1, none⟩) (Kd.R_far (p := ⟨gb349, 0, none⟩) (Kd.R_types HO355.out BK349.out (by decide)) (fun _ hk => hk.2) (.int .i64 t351)) (fun _ hk => hk.2) (.int .i64 t352)) (fun _ hk => hk.2) (.slice Ao37 t353.length co37)) (fun _ hk => trivial)), bl⟩
 ·replace c3 := Bool.eq_false_iff.mpr c3
  subst c3
  have H1 : (some (0, 0, ([] : List Int), 0, 0, 30)) = some (r1, r2, r3, r4, r5, r6) := by rw [if_neg (show ¬ (false = true) by decide)] at H; exact H
  clear H
  have H := H1
  clear H1
  simp only [Option.some.injEq, Prod.mk.injEq] at H
  obtain ⟨rfl, rfl, rfl, rfl, rfl, rfl⟩ := H
  go_enter Try.func34, Try.ntmps34
  go_wp2_with (first | ((with_reducible refine gd 1 rfl ?_); refine bx 1 #[.int .i64 a0_0, .int .i64 a0_1, .slice A0_2 l0_2.length c0_2] 24 rfl rfl ?_; intro gb348 hg w38 hbox hb; have n_ := aC (bs hb) (aC hbox (aC (gz hg) (aE (gz hg)))); clear HB; obtain ⟨HB, BK348, GW348, GE348⟩ := n_; clear hb hbox hg) | ((with_reducible refine gd 2 rfl ?_); refine bx 2 #[.int .i64 0, .int .i64 0, .slice none 0 0] 24 rfl rfl ?_; intro gb349 hg w39 hbox hb; have n_ := aC (blk_below (bU BK348.out) hb) (aC (bs hb) (aC hbox (aC (gz hg) (aC (gz hg) (aC (gn hg (bU BK348.out)) (aE (gm hg (bU BK348.out)))))))); clear BK348 HB; obtain ⟨BK348, HB, BK349, GW349, GE349, NB348_349, NB349_348⟩ := n_; clear hb hbox hg; have hnb40 := NB348_349.out; have hnc40 := NB349_348.out; obtain ⟨hcz41_0, hcz41_1, hcz41_2, hfz41_0, hfz41_1, hfz41_2⟩ := cz3f BK348.out) | (go_at_call 33; (with_reducible refine (incunableref05_Valid.calls k a0_0 a0_1 _ _ l0_2 false _ ?side1 ?side2 A2.out).mono ?_); (case side1 => exact cU (Kd.C_below HR0_2.out HB.out)); (case side2 => exact HC0_2.out); rintro e w42 ⟨rfl, hb⟩; have n_ := aC (blk_below (bU BK348.out) hb) (aC (blk_below (bU BK349.out) hb) (aE (bs hb))); clear BK348 BK349 HB; obtain ⟨BK348, BK349, HB⟩ := n_; (try clear hb); obtain ⟨hcz43_0, hcz43_1, hcz43_2, hfz43_0, hfz43_1, hfz43_2⟩ := cz3f BK349.out))
  refine bodyPost_ret (results_list (rs := [.cell 2 24, .tmp 3, .tmp 4, .tmp 5]) rfl (by simp) (.cell gb349 24 #[.int .i64 0, .int .i64 0, .slice none 0 0] (0, 0) _ rfl (by (with_reducible repeat (first | refine blk_drewN ?_ _ | refine blk_drew ?_ | refine blk_alloc ?_ _)); refine blk_put (cs := #[.int .i64 0, .int .i64 0, .slice none 0 0]) ?_ 2 _ rfl; (with_reducible repeat (first | refine blk_drewN ?_ _ | refine blk_drew ?_ | refine blk_alloc ?_ _)); refine blk_put (cs := #[.int .i64 0, .int .i64 0, .slice none 0 0]) ?_ 1 _ rfl; (with_reducible repeat (first | refine blk_drewN ?_ _ | refine blk_drew ?_ | refine blk_alloc ?_ _)); refine blk_put (cs := #[.int .i64 0, .int .i64 0, .slice none 0 0]) ?_ 0 _ rfl; (with_reducible repeat (first | refine blk_drewN ?_ _ | refine blk_drew ?_ | refine blk_alloc ?_ _)); exact BK349.out) Try.underlying24 rfl (by kernel_rfl) (.tmp (.tmp (.tmp .nil))))) rfl ?_
  exact ⟨_, re, by first | exact Kd.R_nil _ _ _ _ _ | exact Kd.N_nil _ _ _ _ _ | exact Kd.V_nil _ _ _ _ _ | exact Kd.Q_nil _ _ _ _ _ | exact Kd.S_nil _ _ _ _ _, bl⟩

end Go.Proofs.Ytaflekobfbgedaa.PShapePieces
