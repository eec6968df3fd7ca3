-- Written by a program of this session (wip/tools/myprint.py) over the kit's print. Not trusted: Lean checks it.
import Derived.Test.YtaflekobfbgedaaPShapePiecesx0
import Derived.Test.YtaflekobfbgedaaPShapePiecesx4
import Derived.Test.YtaflekobfbgedaaPShapePiecesx5
import Derived.Test.YtaflekobfbgedaaPShapePiecesx8
import Derived.Test.YtaflekobfbgedaaPShapePiecesx9
import Derived.Test.YtaflekobfbgedaaPShapePiecesx10
import Derived.Test.YtaflekobfbgedaaPShapePiecesx11
import Derived.Test.YtaflekobfbgedaaPShapePiecesx14
namespace Go.Proofs.Ytaflekobfbgedaa.PShapePieces
open Go.RowKit Go.Proofs.YtaflekobfbgedaaW.PrintWords Go.Proofs.YtaflekobfbgedaaW.PrintLast Go.Proofs.YtaflekobfbgedaaW.PrintMore
attribute [local go_sem] max2_int min2_int max_two min_two max_three min_three max_four min_four   -- for this text's walks alone
set_option linter.unusedVariables false
set_option linter.unusedSimpArgs false

/-! ### incunablelaw15_ShapePieces: function 8 -/
mutual
def incunablelaw15_ShapePieces.j0 : Nat → List (S48) → Bool → Int → Int → List Int → Option (Bool)
 | 0, _, _, _, _, _ => none
 | k + 1, x3, x58, x440000, x440001, x440002 => if x58 = true then (some false) else (incunablelaw15_ShapePieces.l0 k x3 0 x440000 x440001 x440002)
def incunablelaw15_ShapePieces.l0 : Nat → List (S48) → Int → Int → Int → List Int → Option (Bool)
 | 0, _, _, _, _, _ => none
 | k + 1, x3, x7, x440000, x440001, x440002 => if x7 < (x3.length : Int) then (if 0 ≤ x7 then ((incunableref05_Trim.f k ((rd_T48 x3 x7).f0.f0) ((rd_T48 x3 x7).f0.f1) ((rd_T48 x3 x7).f0.f2)).bind fun bt457 => (if ((rd_T48 x3 x7).f0.f0) < 1 then (some false) else (if ((rd_T48 x3 x7).f0.f1) < 1 then (some false) else (if ((rd_T48 x3 x7).f0.f0) > 40 then (some false) else (if ((rd_T48 x3 x7).f0.f1) > 40 then (some false) else (if bt457.2.2.2.1 = 0 then (if bt457.2.2.2.2.1 = 0 then ((incunableref05_Same.f bt457.1 bt457.2.1 bt457.2.2.1 ((rd_T48 x3 x7).f0.f0) ((rd_T48 x3 x7).f0.f1) ((rd_T48 x3 x7).f0.f2)).bind fun t466 => (if t466 = true then (incunablelaw15_ShapePieces.l0 k x3 (wrap64 (x7 + 1)) x440000 x440001 x440002) else (some false))) else (some false)) else (some false))))))) else (none)) else ((incunablelaw15_Large.f x440000 x440001 x440002).bind fun t467 => (if t467 = true then ((incunablelaw15_Sane.f k).bind fun t468 => (some t468)) else ((incunableref15_Pieces.f k x440000 x440001 x440002).bind fun bt469 => ((incunableref15_SamePlaced.f k x3 bt469.1).bind fun t473 => (if t473 = true then ((incunablelaw15_Sane.f k).bind fun t474 => (some t474)) else (some false))))))
end
def incunablelaw15_ShapePieces.f (k : Nat) (a0_0 : Int) (a0_1 : Int) (l0_2 : List Int) : Option (Bool) := if (l0_2.length : Int) > 4500 then ((incunablelaw15_Sane.f k).bind fun t440 => (some t440)) else ((shape_Pieces.f k a0_0 a0_1 l0_2).bind fun bt441 => ((incunableref05_Valid.f k a0_0 a0_1 l0_2).bind fun t445 => (if t445 = true then ((shape_Draw.f k a0_0 a0_1 bt441.1).bind fun bt447 => (if bt441.2 = 0 then (if bt447.2.2.2 = 0 then ((incunableref05_Same.f bt447.1 bt447.2.1 bt447.2.2.1 a0_0 a0_1 l0_2).bind fun t454 => (incunablelaw15_ShapePieces.j0 k bt441.1 (!t454) a0_0 a0_1 l0_2)) else (incunablelaw15_ShapePieces.j0 k bt441.1 true a0_0 a0_1 l0_2)) else (incunablelaw15_ShapePieces.j0 k bt441.1 true a0_0 a0_1 l0_2))) else (if bt441.2 = 30 then (if (bt441.1.length : Int) = 0 then ((incunablelaw15_Sane.f k).bind fun t446 => (some t446)) else (some false)) else (some false)))))
theorem incunablelaw15_ShapePieces.mono_l : ∀ k, (∀ y0 y1 y2 y3 y4, LeO (incunablelaw15_ShapePieces.j0 k y0 y1 y2 y3 y4) (incunablelaw15_ShapePieces.j0 (k + 1) y0 y1 y2 y3 y4)) ∧ (∀ y0 y1 y2 y3 y4, LeO (incunablelaw15_ShapePieces.l0 k y0 y1 y2 y3 y4) (incunablelaw15_ShapePieces.l0 (k + 1) y0 y1 y2 y3 y4))
 | 0 => ⟨fun _ _ _ _ _ r h => by simp [incunablelaw15_ShapePieces.j0] at h, fun _ _ _ _ _ r h => by simp [incunablelaw15_ShapePieces.l0] at h⟩
 | k + 1 => by
  obtain ⟨ih0, ih1⟩ := incunablelaw15_ShapePieces.mono_l k
  refine ⟨?_, ?_⟩
  ·intro y0 y1 y2 y3 y4
   unfold incunablelaw15_ShapePieces.j0
   repeat' first
   | (with_reducible exact ih0 _ _ _ _ _)
   | (with_reducible exact ih1 _ _ _ _ _)
   | (with_reducible exact incunablelaw15_Sane.mono _)
   | (with_reducible exact incunableref05_Trim.mono _ _ _ _)
   | (with_reducible exact incunableref05_Valid.mono _ _ _ _)
   | (with_reducible exact incunableref15_Pieces.mono _ _ _ _)
   | (with_reducible exact incunableref15_SamePlaced.mono _ _ _)
   | (with_reducible exact shape_Draw.mono _ _ _ _)
   | (with_reducible exact shape_Pieces.mono _ _ _ _)
   | (with_reducible first | exact LeO.refl _ | exact LeO.none _ | refine LeO.ite ?_ ?_ | refine LeO.bind ?_ (fun _ => ?_))
   | exact ih0 _ _ _ _ _
   | exact ih1 _ _ _ _ _
   | exact incunablelaw15_Sane.mono _
   | exact incunableref05_Trim.mono _ _ _ _
   | exact incunableref05_Valid.mono _ _ _ _
   | exact incunableref15_Pieces.mono _ _ _ _
   | exact incunableref15_SamePlaced.mono _ _ _
   | exact shape_Draw.mono _ _ _ _
   | exact shape_Pieces.mono _ _ _ _
   | exact LeO.none _ | refine LeO.ite ?_ ?_ | refine LeO.bind ?_ (fun _ => ?_)
  ·intro y0 y1 y2 y3 y4
   unfold incunablelaw15_ShapePieces.l0
   repeat' first
   | (with_reducible exact ih0 _ _ _ _ _)
   | (with_reducible exact ih1 _ _ _ _ _)
   | (with_reducible exact incunablelaw15_Sane.mono _)
   | (with_reducible exact incunableref05_Trim.mono _ _ _ _)
   | (with_reducible exact incunableref05_Valid.mono _ _ _ _)
   | (with_reducible exact incunableref15_Pieces.mono _ _ _ _)
   | (with_reducible exact incunableref15_SamePlaced.mono _ _ _)
   | (with_reducible exact shape_Draw.mono _ _ _ _)
   | (with_reducible exact shape_Pieces.mono _ _ _ _)
   | (with_reducible first | exact LeO.refl _ | exact LeO.none _ | refine LeO.ite ?_ ?_ | refine LeO.bind ?_ (fun _ => ?_))
   | exact ih0 _ _ _ _ _
   | exact ih1 _ _ _ _ _
   | exact incunablelaw15_Sane.mono _
   | exact incunableref05_Trim.mono _ _ _ _
   | exact incunableref05_Valid.mono _ _ _ _
   | exact incunableref15_Pieces.mono _ _ _ _
   | exact incunableref15_SamePlaced.mono _ _ _
   | exact shape_Draw.mono _ _ _ _
   | exact shape_Pieces.mono _ _ _ _
   | exact LeO.none _ | refine LeO.ite ?_ ?_ | refine LeO.bind ?_ (fun _ => ?_)
theorem incunablelaw15_ShapePieces.mono : ∀ a0 a1 a2 k, LeO (incunablelaw15_ShapePieces.f k a0 a1 a2) (incunablelaw15_ShapePieces.f (k + 1) a0 a1 a2) := by
 intro a0 a1 a2 k
 obtain ⟨ih0, ih1⟩ := incunablelaw15_ShapePieces.mono_l k
 unfold incunablelaw15_ShapePieces.f
 repeat' first
   | (with_reducible exact ih0 _ _ _ _ _)
   | (with_reducible exact ih1 _ _ _ _ _)
   | (with_reducible exact incunablelaw15_Sane.mono _)
   | (with_reducible exact incunableref05_Trim.mono _ _ _ _)
   | (with_reducible exact incunableref05_Valid.mono _ _ _ _)
   | (with_reducible exact incunableref15_Pieces.mono _ _ _ _)
   | (with_reducible exact incunableref15_SamePlaced.mono _ _ _)
   | (with_reducible exact shape_Draw.mono _ _ _ _)
   | (with_reducible exact shape_Pieces.mono _ _ _ _)
   | (with_reducible first | exact LeO.refl _ | exact LeO.none _ | refine LeO.ite ?_ ?_ | refine LeO.bind ?_ (fun _ => ?_))
   | exact ih0 _ _ _ _ _
   | exact ih1 _ _ _ _ _
   | exact incunablelaw15_Sane.mono _
   | exact incunableref05_Trim.mono _ _ _ _
   | exact incunableref05_Valid.mono _ _ _ _
   | exact incunableref15_Pieces.mono _ _ _ _
   | exact incunableref15_SamePlaced.mono _ _ _
   | exact shape_Draw.mono _ _ _ _
   | exact shape_Pieces.mono _ _ _ _
   | exact LeO.none _ | refine LeO.ite ?_ ?_ | refine LeO.bind ?_ (fun _ => ?_)
set_option maxHeartbeats 8000000 in
set_option maxRecDepth 100000 in
theorem incunablelaw15_ShapePieces.calls (k : Nat) (a0_0 : Int) (a0_1 : Int) (A0_2 : Option Addr) (c0_2 : Nat) (l0_2 : List Int) (r : Bool) (w : World) (hr0_2 : Kd.C (Kd.int .u8) w A0_2 l0_2.length l0_2) (hc0_2 : l0_2.length ≤ c0_2) (h : incunablelaw15_ShapePieces.f k a0_0 a0_1 l0_2 = some r) (hr_ : r = true) :
  Calls Try.prog 8 #[.agg #[.int .i64 a0_0, .int .i64 a0_1, .slice A0_2 l0_2.length c0_2]] w fun e w' => e = .returned (.bool r) ∧ Below w.heap.size w w' := by
 have HR_ := Aside0.mk hr_
 clear hr_
 have hu24 := Try.underlying24
 have HR0_2 := Aside0.mk hr0_2
 have HC0_2 := Aside0.mk hc0_2
 clear hr0_2 hc0_2
 have HB := Aside0.mk (Below.refl w.heap.size w)
 have H : (if (l0_2.length : Int) > 4500 then ((incunablelaw15_Sane.f k).bind fun t440 => (some t440)) else ((shape_Pieces.f k a0_0 a0_1 l0_2).bind fun bt441 => ((incunableref05_Valid.f k a0_0 a0_1 l0_2).bind fun t445 => (if t445 = true then ((shape_Draw.f k a0_0 a0_1 bt441.1).bind fun bt447 => (if bt441.2 = 0 then (if bt447.2.2.2 = 0 then ((incunableref05_Same.f bt447.1 bt447.2.1 bt447.2.2.1 a0_0 a0_1 l0_2).bind fun t454 => (incunablelaw15_ShapePieces.j0 k bt441.1 (!t454) a0_0 a0_1 l0_2)) else (incunablelaw15_ShapePieces.j0 k bt441.1 true a0_0 a0_1 l0_2)) else (incunablelaw15_ShapePieces.j0 k bt441.1 true a0_0 a0_1 l0_2))) else (if bt441.2 = 30 then (if (bt441.1.length : Int) = 0 then ((incunablelaw15_Sane.f k).bind fun t446 => (some t446)) else (some false)) else (some false)))))) = some r := h
 clear h
 by_cases c2 : (l0_2.length : Int) > 4500
 ·rw [if_pos c2] at H
  have c2b0 := decide_eq_true c2
  have c2b1 : decide (4500 < l0_2.length) = true := decide_eq_true (by omega)
  clear c2
  replace H := Option.bind_eq_some_iff.mp H
  obtain ⟨t440, A30, H⟩ := H
  replace H : (some t440) = some r := H
  have A3 := Aside0.mk A30
  clear A30
  obtain rfl := Option.some.inj H
  go_enter Try.func8, Try.ntmps8
  go_wp2_with (first | ((with_reducible refine gd 1 rfl ?_); (try (refine gate_guard (by rfl) ?_; dsimp only)); refine bx 1 #[.int .i64 a0_0, .int .i64 a0_1, .slice A0_2 l0_2.length c0_2] 24 rfl rfl ?_; intro gb439 hg w4 hbox hb; have n_ := aC (bs hb) (aC hbox (aC (gz hg) (aE (gz hg)))); clear HB; obtain ⟨HB, BK439, GW439, GE439⟩ := n_; clear hb hbox hg; obtain ⟨hcz5_0, hcz5_1, hcz5_2, hfz5_0, hfz5_1, hfz5_2⟩ := cz3f BK439.out) | ((with_reducible refine gf 11 rfl ?_); refine gL (some 19) rfl rfl Try.func11 rfl #[] rfl ?_; (with_reducible refine (incunablelaw15_Sane.calls k  t440 _ A3.out).mono ?_); rintro e w6 ⟨rfl, hb⟩; refine ⟨_, rfl, ?_⟩; have n_ := aC (blk_below (bU BK439.out) hb) (aE (bs hb)); clear BK439 HB; obtain ⟨BK439, HB⟩ := n_; (try clear hb)))
  go_ret
  exact ⟨re, bl⟩
 ·rw [if_neg c2] at H
  have c2b0 := decide_eq_false c2
  have c2b1 : decide (4500 < l0_2.length) = false := decide_eq_false (by omega)
  clear c2
  replace H := Option.bind_eq_some_iff.mp H
  obtain ⟨⟨t441, t444⟩, A70, H⟩ := H
  replace H : ((incunableref05_Valid.f k a0_0 a0_1 l0_2).bind fun t445 => (if t445 = true then ((shape_Draw.f k a0_0 a0_1 t441).bind fun bt447 => (if t444 = 0 then (if bt447.2.2.2 = 0 then ((incunableref05_Same.f bt447.1 bt447.2.1 bt447.2.2.1 a0_0 a0_1 l0_2).bind fun t454 => (incunablelaw15_ShapePieces.j0 k t441 (!t454) a0_0 a0_1 l0_2)) else (incunablelaw15_ShapePieces.j0 k t441 true a0_0 a0_1 l0_2)) else (incunablelaw15_ShapePieces.j0 k t441 true a0_0 a0_1 l0_2))) else (if t444 = 30 then (if (t441.length : Int) = 0 then ((incunablelaw15_Sane.f k).bind fun t446 => (some t446)) else (some false)) else (some false)))) = some r := H
  have A7 := Aside0.mk A70
  clear A70
  replace H := Option.bind_eq_some_iff.mp H
  obtain ⟨t445, A80, H⟩ := H
  replace H : (if t445 = true then ((shape_Draw.f k a0_0 a0_1 t441).bind fun bt447 => (if t444 = 0 then (if bt447.2.2.2 = 0 then ((incunableref05_Same.f bt447.1 bt447.2.1 bt447.2.2.1 a0_0 a0_1 l0_2).bind fun t454 => (incunablelaw15_ShapePieces.j0 k t441 (!t454) a0_0 a0_1 l0_2)) else (incunablelaw15_ShapePieces.j0 k t441 true a0_0 a0_1 l0_2)) else (incunablelaw15_ShapePieces.j0 k t441 true a0_0 a0_1 l0_2))) else (if t444 = 30 then (if (t441.length : Int) = 0 then ((incunablelaw15_Sane.f k).bind fun t446 => (some t446)) else (some false)) else (some false))) = some r := H
  have A8 := Aside0.mk A80
  clear A80
  by_cases c9 : t445 = true
  ·subst c9
   have H1 : ((shape_Draw.f k a0_0 a0_1 t441).bind fun bt447 => (if t444 = 0 then (if bt447.2.2.2 = 0 then ((incunableref05_Same.f bt447.1 bt447.2.1 bt447.2.2.1 a0_0 a0_1 l0_2).bind fun t454 => (incunablelaw15_ShapePieces.j0 k t441 (!t454) a0_0 a0_1 l0_2)) else (incunablelaw15_ShapePieces.j0 k t441 true a0_0 a0_1 l0_2)) else (incunablelaw15_ShapePieces.j0 k t441 true a0_0 a0_1 l0_2))) = some r := by rw [if_pos rfl] at H; exact H
   clear H
   have H := H1
   clear H1
   replace H := Option.bind_eq_some_iff.mp H
   obtain ⟨⟨t447, t448, t449, t452⟩, A100, H⟩ := H
   replace H : (if t444 = 0 then (if t452 = 0 then ((incunableref05_Same.f t447 t448 t449 a0_0 a0_1 l0_2).bind fun t454 => (incunablelaw15_ShapePieces.j0 k t441 (!t454) a0_0 a0_1 l0_2)) else (incunablelaw15_ShapePieces.j0 k t441 true a0_0 a0_1 l0_2)) else (incunablelaw15_ShapePieces.j0 k t441 true a0_0 a0_1 l0_2)) = some r := H
   have A10 := Aside0.mk A100
   clear A100
   have HC11 := Aside0.mk H
   clear H
   go_enter Try.func8, Try.ntmps8
   go_upto_region 7 with (first | ((with_reducible refine gd 1 rfl ?_); (try (refine gate_guard (by rfl) ?_; dsimp only)); refine bx 1 #[.int .i64 a0_0, .int .i64 a0_1, .slice A0_2 l0_2.length c0_2] 24 rfl rfl ?_; intro gb439 hg w12 hbox hb; have n_ := aC (bs hb) (aC hbox (aC (gz hg) (aE (gz hg)))); clear HB; obtain ⟨HB, BK439, GW439, GE439⟩ := n_; clear hb hbox hg; obtain ⟨hcz13_0, hcz13_1, hcz13_2, hfz13_0, hfz13_1, hfz13_2⟩ := cz3f BK439.out) | ((with_reducible refine gf 32 rfl ?_); refine gL (some 22) rfl rfl Try.func32 rfl #[.agg #[.int .i64 a0_0, .int .i64 a0_1, .slice A0_2 l0_2.length c0_2]] rfl ?_; (with_reducible refine (shape_Pieces.calls k a0_0 a0_1 _ _ l0_2 t441 t444 _ ?side1 ?side2 A7.out).mono ?_); (case side1 => exact cU (Kd.C_below HR0_2.out HB.out)); (case side2 => exact HC0_2.out); rintro e w14 ⟨v442, rfl, ho0, hb⟩; refine ⟨_, rfl, ?_⟩; have n_ := aC (Kd.N_lower (Kd.N_mono (ok' := fun k_ => k_ ≠ gb439) ho0 (fun k_ hk_ => (Kd.freshB (bU BK439.out) k_ hk_))) bz) (aC (blk_below (bU BK439.out) hb) (aE (bs hb))); clear BK439 HB; obtain ⟨HO443, BK439, HB⟩ := n_; (try clear hb); (try clear ho0); obtain ⟨hcz15_0, hcz15_1, hcz15_2, hfz15_0, hfz15_1, hfz15_2⟩ := cz3f BK439.out) | ((with_reducible refine gf 33 rfl ?_); refine gL (some 26) rfl rfl Try.func33 rfl #[.agg #[.int .i64 a0_0, .int .i64 a0_1, .slice A0_2 l0_2.length c0_2]] rfl ?_; (with_reducible refine (incunableref05_Valid.calls k a0_0 a0_1 _ _ l0_2 true _ ?side1 ?side2 A8.out).mono ?_); (case side1 => exact cU (Kd.C_below HR0_2.out HB.out)); (case side2 => exact HC0_2.out); rintro e w16 ⟨rfl, hb⟩; refine ⟨_, rfl, ?_⟩; have n_ := aC (Kd.N_below (by (with_reducible repeat (first | apply Kd.N_alloc | apply Kd.N_drewN | apply Kd.N_drew)); exact HO443.out) hb) (aC (blk_below (bU BK439.out) hb) (aE (bs hb))); clear HO443 BK439 HB; obtain ⟨HO443, BK439, HB⟩ := n_; (try clear hb); obtain ⟨hcz17_0, hcz17_1, hcz17_2, hfz17_0, hfz17_1, hfz17_2⟩ := cz3f BK439.out; obtain ⟨Ao18, co18, eo18⟩ := Kd.N_slice HO443.out; subst eo18) | ((with_reducible refine gf 24 rfl ?_); refine gL (some 44) rfl rfl Try.func24 rfl #[.int .i64 a0_0, .int .i64 a0_1, .slice Ao18 t441.length co18] rfl ?_; (with_reducible refine (shape_Draw.calls k a0_0 a0_1 _ _ t441 t447 t448 t449 t452 _ ?side1 ?side2 A10.out).mono ?_); (case side1 => exact cU (Kd.N_reads' HO443.out).2.2); (case side2 => exact (Kd.N_reads' HO443.out).2.1); rintro e w19 ⟨v450, rfl, ho0, hb⟩; refine ⟨_, rfl, ?_⟩; have n_ := aC (Kd.N_elder' (by (with_reducible repeat (first | apply Kd.N_alloc | apply Kd.N_drewN | apply Kd.N_drew)); exact HO443.out) (Kd.R_base ho0) hb) (aC (Kd.R_lower ho0 bz) (aC (blk_below (bU BK439.out) hb) (aE (bs hb)))); clear HO443 BK439 HB; obtain ⟨HO443, HO451, BK439, HB⟩ := n_; (try clear hb); (try clear ho0)) | ((with_reducible refine gd 5 rfl ?_); (try (refine gate_guard (by rfl) ?_; dsimp only)); refine bx 5 #[.int .i64 0, .int .i64 0, .slice none 0 0] 24 rfl rfl ?_; intro gb453 hg w20 hbox hb; have n_ := aC (Kd.N_below (Kd.N_elderB (by (with_reducible repeat (first | apply Kd.N_alloc | apply Kd.N_drewN | apply Kd.N_drew)); exact HO443.out) gb453 (Nat.le_of_eq hg.symm)) hb) (aC (Kd.R_below (rU HO451.out) hb) (aC (blk_below (bU BK439.out) hb) (aC (bs hb) (aC hbox (aC (gz hg) (aC (gz hg) (aC (gn hg (bU BK439.out)) (aE (gm hg (bU BK439.out)))))))))); clear HO443 HO451 BK439 HB; obtain ⟨HO443, HO451, BK439, HB, BK453, GW453, GE453, NB439_453, NB453_439⟩ := n_; clear hb hbox hg; have hnb21 := NB453_439.out; have hnc21 := NB439_453.out; obtain ⟨hcz22_0, hcz22_1, hcz22_2, hfz22_0, hfz22_1, hfz22_2⟩ := cz3f BK453.out; obtain ⟨Ao23, co23, eo23⟩ := Kd.R_slice HO451.out; subst eo23))
   (try simp only [Act.put, List.setIfInBounds_toArray, List.set_cons_zero, List.set_cons_succ])
   go_cut [58] (fun v58 wc => ∃ (kq : Nat) (x58_10 : Bool), v58 = .bool x58_10 ∧ Aside0 (incunablelaw15_ShapePieces.j0 kq t441 x58_10 a0_0 a0_1 l0_2 = some r) ∧ Aside0 (kq ≤ k) ∧ Aside0 (Kd.N k48 48 wc w.heap.size (fun k_ => some k_ ≠ ((.slice Ao23 t449.length co23) : Value).ownBlock ∧ k_ ≠ gb439 ∧ k_ ≠ gb453) (.slice Ao18 t441.length co18) t441) ∧ Aside0 (Kd.R (Kd.int .u8) 5 wc w.heap.size (fun _ => True) (.slice Ao23 t449.length co23) t449) ∧ Aside0 (wc.heap[gb439]? = some (.cells #[.int .i64 a0_0, .int .i64 a0_1, (.slice A0_2 l0_2.length c0_2)] 24 (0, 0))) ∧ Aside0 (wc.heap[gb453]? = some (.cells #[.int .i64 t447, .int .i64 t448, (.slice Ao23 t449.length co23)] 24 (0, 0))) ∧ Aside0 (Below w.heap.size w wc))
   case first =>
    have H := HC11.out
    clear HC11
    by_cases c24 : t444 = 0
    ·rw [if_pos c24] at H
     have c24b0 := beq_iff_eq.mpr c24
     have c24b1 := bne_eq_false_iff_eq.mpr c24
     clear c24
     (first | rw [c24b0] | (simp only [i64_w, i32_w]; rw [c24b0]) | skip)
     by_cases c25 : t452 = 0
     ·rw [if_pos c25] at H
      have c25b0 := beq_iff_eq.mpr c25
      have c25b1 := bne_eq_false_iff_eq.mpr c25
      clear c25
      replace H := Option.bind_eq_some_iff.mp H
      obtain ⟨t454, A260, H⟩ := H
      replace H : (incunablelaw15_ShapePieces.j0 k t441 (!t454) a0_0 a0_1 l0_2) = some r := H
      have A26 := Aside0.mk A260
      clear A260
      have H' := Aside0.mk H
      clear H
      have hnb27 := NB453_439.out
      have hnc27 := NB439_453.out
      obtain ⟨hcz28_0, hcz28_1, hcz28_2, hfz28_0, hfz28_1, hfz28_2⟩ := cz3f BK453.out
      obtain ⟨hcz29_0, hcz29_1, hcz29_2, hfz29_0, hfz29_1, hfz29_2⟩ := cz3f BK439.out
      go_wp2_with (first | (go_at_call 25; (with_reducible refine (incunableref05_Same.calls t447 t448 _ _ t449 a0_0 a0_1 _ _ l0_2 t454 _ ?side1 ?side2 ?side3 ?side4 A26.out).mono ?_); (case side1 => refine (Kd.R_reads' (e := 5) (base := w.heap.size) (ok := fun k_ => True) (n := t449.length) (c := co23) ?_).2.2; exact (rU (Kd.R_mono (Kd.R_far (p := ⟨gb453, 2, none⟩) (Kd.R_far (p := ⟨gb453, 1, none⟩) (Kd.R_far (p := ⟨gb453, 0, none⟩) (Kd.R_types HO451.out BK453.out (by decide)) (fun _ hk => hk.2) (.int .i64 t447)) (fun _ hk => hk.2) (.int .i64 t448)) (fun _ hk => hk.2) (.slice Ao23 t449.length co23)) (fun _ h_ => h_.1)))); (case side2 => exact (Kd.R_reads' HO451.out).2.1); (case side3 => exact Kd.C_below HR0_2.out bl); (case side4 => exact HC0_2.out); rintro e w30 ⟨rfl, hb⟩; have n_ := aC (Kd.N_below (by (with_reducible repeat (first | apply Kd.N_alloc | apply Kd.N_drewN | apply Kd.N_drew)); exact (Kd.N_mono (Kd.N_far (p := ⟨gb453, 2, none⟩) (Kd.N_far (p := ⟨gb453, 1, none⟩) (Kd.N_far (p := ⟨gb453, 0, none⟩) (Kd.N_mono HO443.out (fun k_ hk => (⟨hk, hk.2⟩ : _ ∧ k_ ≠ gb453))) (fun _ hk => hk.2) (.int .i64 t447)) (fun _ hk => hk.2) (.int .i64 t448)) (fun _ hk => hk.2) (.slice Ao23 t449.length co23)) (fun _ h_ => h_.1))) hb) (aC (Kd.R_below (rU (Kd.R_mono (Kd.R_far (p := ⟨gb453, 2, none⟩) (Kd.R_far (p := ⟨gb453, 1, none⟩) (Kd.R_far (p := ⟨gb453, 0, none⟩) (Kd.R_types HO451.out BK453.out (by decide)) (fun _ hk => hk.2) (.int .i64 t447)) (fun _ hk => hk.2) (.int .i64 t448)) (fun _ hk => hk.2) (.slice Ao23 t449.length co23)) (fun _ h_ => h_.1))) hb) (aC (blk_below (g := gb439) (o := .cells #[.int .i64 a0_0, .int .i64 a0_1, .slice A0_2 l0_2.length c0_2] 24 (0, 0)) (by (with_reducible repeat (first | refine blk_drewN ?_ _ | refine blk_drew ?_ | refine blk_alloc ?_ _)); refine blk_far ?_ NB439_453.out _; (with_reducible repeat (first | refine blk_drewN ?_ _ | refine blk_drew ?_ | refine blk_alloc ?_ _)); refine blk_far ?_ NB439_453.out _; (with_reducible repeat (first | refine blk_drewN ?_ _ | refine blk_drew ?_ | refine blk_alloc ?_ _)); refine blk_far ?_ NB439_453.out _; (with_reducible repeat (first | refine blk_drewN ?_ _ | refine blk_drew ?_ | refine blk_alloc ?_ _)); exact BK439.out) hb) (aC (blk_below (g := gb453) (o := .cells #[.int .i64 t447, .int .i64 t448, .slice Ao23 t449.length co23] 24 (0, 0)) (by (with_reducible repeat (first | refine blk_drewN ?_ _ | refine blk_drew ?_ | refine blk_alloc ?_ _)); refine blk_put (cs := #[.int .i64 t447, .int .i64 t448, .slice none 0 0]) ?_ 2 _ rfl; (with_reducible repeat (first | refine blk_drewN ?_ _ | refine blk_drew ?_ | refine blk_alloc ?_ _)); refine blk_put (cs := #[.int .i64 t447, .int .i64 0, .slice none 0 0]) ?_ 1 _ rfl; (with_reducible repeat (first | refine blk_drewN ?_ _ | refine blk_drew ?_ | refine blk_alloc ?_ _)); refine blk_put (cs := #[.int .i64 0, .int .i64 0, .slice none 0 0]) ?_ 0 _ rfl; (with_reducible repeat (first | refine blk_drewN ?_ _ | refine blk_drew ?_ | refine blk_alloc ?_ _)); exact BK453.out) hb) (aE (bs hb))))); clear HO443 HO451 BK439 BK453 HB; obtain ⟨HO443, HO451, BK439, BK453, HB⟩ := n_; (try clear hb)))
      go_meet
      case rel => exact ⟨_, (!t454), rq, H', ⟨by first | omega | exact Nat.le_refl _⟩, ⟨by (with_reducible repeat (first | apply Kd.N_alloc | apply Kd.N_drewN | apply Kd.N_drew)); exact Kd.N_mono HO443.out (fun _ hk => ⟨hk.1.2, ⟨hk.1.1, hk.2⟩⟩)⟩, ⟨rU HO451.out⟩, ⟨bU BK439.out⟩, ⟨bU BK453.out⟩, ⟨bl⟩⟩
     ·rw [if_neg c25] at H
      have c25b0 := beq_eq_false_iff_ne.mpr c25
      have c25b1 := bne_iff_ne.mpr c25
      have H' := Aside0.mk H
      clear H
      go_wp2
      go_meet
      case rel => exact ⟨_, (true), rq, H', ⟨by first | omega | exact Nat.le_refl _⟩, ⟨by (with_reducible repeat (first | apply Kd.N_alloc | apply Kd.N_drewN | apply Kd.N_drew)); exact Kd.N_mono (Kd.N_far (p := ⟨gb453, 2, none⟩) (Kd.N_far (p := ⟨gb453, 1, none⟩) (Kd.N_far (p := ⟨gb453, 0, none⟩) (Kd.N_mono HO443.out (fun k_ hk => (⟨hk, hk.2⟩ : _ ∧ k_ ≠ gb453))) (fun _ hk => hk.2) (.int .i64 t447)) (fun _ hk => hk.2) (.int .i64 t448)) (fun _ hk => hk.2) (.slice Ao23 t449.length co23)) (fun _ hk => ⟨hk.1.1.2, ⟨hk.1.1.1, hk.1.2⟩⟩)⟩, ⟨rU (Kd.R_mono (Kd.R_far (p := ⟨gb453, 2, none⟩) (Kd.R_far (p := ⟨gb453, 1, none⟩) (Kd.R_far (p := ⟨gb453, 0, none⟩) (Kd.R_types HO451.out BK453.out (by decide)) (fun _ hk => hk.2) (.int .i64 t447)) (fun _ hk => hk.2) (.int .i64 t448)) (fun _ hk => hk.2) (.slice Ao23 t449.length co23)) (fun _ hk => trivial))⟩, ⟨by (with_reducible repeat (first | refine blk_drewN ?_ _ | refine blk_drew ?_ | refine blk_alloc ?_ _)); refine blk_far ?_ NB439_453.out _; (with_reducible repeat (first | refine blk_drewN ?_ _ | refine blk_drew ?_ | refine blk_alloc ?_ _)); refine blk_far ?_ NB439_453.out _; (with_reducible repeat (first | refine blk_drewN ?_ _ | refine blk_drew ?_ | refine blk_alloc ?_ _)); refine blk_far ?_ NB439_453.out _; (with_reducible repeat (first | refine blk_drewN ?_ _ | refine blk_drew ?_ | refine blk_alloc ?_ _)); exact BK439.out⟩, ⟨by (with_reducible repeat (first | refine blk_drewN ?_ _ | refine blk_drew ?_ | refine blk_alloc ?_ _)); refine blk_put (cs := #[.int .i64 t447, .int .i64 t448, .slice none 0 0]) ?_ 2 _ rfl; (with_reducible repeat (first | refine blk_drewN ?_ _ | refine blk_drew ?_ | refine blk_alloc ?_ _)); refine blk_put (cs := #[.int .i64 t447, .int .i64 0, .slice none 0 0]) ?_ 1 _ rfl; (with_reducible repeat (first | refine blk_drewN ?_ _ | refine blk_drew ?_ | refine blk_alloc ?_ _)); refine blk_put (cs := #[.int .i64 0, .int .i64 0, .slice none 0 0]) ?_ 0 _ rfl; (with_reducible repeat (first | refine blk_drewN ?_ _ | refine blk_drew ?_ | refine blk_alloc ?_ _)); exact BK453.out⟩, ⟨bl⟩⟩
    ·rw [if_neg c24] at H
     have c24b0 := beq_eq_false_iff_ne.mpr c24
     have c24b1 := bne_iff_ne.mpr c24
     (first | rw [c24b0] | (simp only [i64_w, i32_w]; rw [c24b0]) | skip)
     have H' := Aside0.mk H
     clear H
     go_wp2
     go_meet
     case rel => exact ⟨_, (true), rq, H', ⟨by first | omega | exact Nat.le_refl _⟩, ⟨by (with_reducible repeat (first | apply Kd.N_alloc | apply Kd.N_drewN | apply Kd.N_drew)); exact Kd.N_mono (Kd.N_far (p := ⟨gb453, 2, none⟩) (Kd.N_far (p := ⟨gb453, 1, none⟩) (Kd.N_far (p := ⟨gb453, 0, none⟩) (Kd.N_mono HO443.out (fun k_ hk => (⟨hk, hk.2⟩ : _ ∧ k_ ≠ gb453))) (fun _ hk => hk.2) (.int .i64 t447)) (fun _ hk => hk.2) (.int .i64 t448)) (fun _ hk => hk.2) (.slice Ao23 t449.length co23)) (fun _ hk => ⟨hk.1.1.2, ⟨hk.1.1.1, hk.1.2⟩⟩)⟩, ⟨rU (Kd.R_mono (Kd.R_far (p := ⟨gb453, 2, none⟩) (Kd.R_far (p := ⟨gb453, 1, none⟩) (Kd.R_far (p := ⟨gb453, 0, none⟩) (Kd.R_types HO451.out BK453.out (by decide)) (fun _ hk => hk.2) (.int .i64 t447)) (fun _ hk => hk.2) (.int .i64 t448)) (fun _ hk => hk.2) (.slice Ao23 t449.length co23)) (fun _ hk => trivial))⟩, ⟨by (with_reducible repeat (first | refine blk_drewN ?_ _ | refine blk_drew ?_ | refine blk_alloc ?_ _)); refine blk_far ?_ NB439_453.out _; (with_reducible repeat (first | refine blk_drewN ?_ _ | refine blk_drew ?_ | refine blk_alloc ?_ _)); refine blk_far ?_ NB439_453.out _; (with_reducible repeat (first | refine blk_drewN ?_ _ | refine blk_drew ?_ | refine blk_alloc ?_ _)); refine blk_far ?_ NB439_453.out _; (with_reducible repeat (first | refine blk_drewN ?_ _ | refine blk_drew ?_ | refine blk_alloc ?_ _)); exact BK439.out⟩, ⟨by (with_reducible repeat (first | refine blk_drewN ?_ _ | refine blk_drew ?_ | refine blk_alloc ?_ _)); refine blk_put (cs := #[.int .i64 t447, .int .i64 t448, .slice none 0 0]) ?_ 2 _ rfl; (with_reducible repeat (first | refine blk_drewN ?_ _ | refine blk_drew ?_ | refine blk_alloc ?_ _)); refine blk_put (cs := #[.int .i64 t447, .int .i64 0, .slice none 0 0]) ?_ 1 _ rfl; (with_reducible repeat (first | refine blk_drewN ?_ _ | refine blk_drew ?_ | refine blk_alloc ?_ _)); refine blk_put (cs := #[.int .i64 0, .int .i64 0, .slice none 0 0]) ?_ 0 _ rfl; (with_reducible repeat (first | refine blk_drewN ?_ _ | refine blk_drew ?_ | refine blk_alloc ?_ _)); exact BK453.out⟩, ⟨bl⟩⟩
   case rest =>
    clear HC11
    obtain ⟨kq, x58_10, rfl, HA, HJ10, HO_3, HO_454002, BK439, BK453, HB⟩ := hcut
    cases kq with
    | zero => exact absurd HA.out (by simp [incunablelaw15_ShapePieces.j0])
    | succ kj10 =>
     have H := HA.out
     clear HA
     simp only [incunablelaw15_ShapePieces.j0] at H
     by_cases c31 : x58_10 = true
     ·subst c31
      have H1 : (some false) = some r := by rw [if_pos rfl] at H; exact H
      clear H
      have H := H1
      clear H1
      exact absurd ((Option.some.inj H).trans HR_.out) (by decide)
     ·replace c31 := Bool.eq_false_iff.mpr c31
      subst c31
      have H1 : (incunablelaw15_ShapePieces.l0 kj10 t441 0 a0_0 a0_1 l0_2) = some r := by rw [if_neg (show ¬ (false = true) by decide)] at H; exact H
      clear H
      have H := H1
      clear H1
      have H' := Aside0.mk H
      clear H
      go_wp2
      go_loopg [7] kj10 (fun kq v7 w' => ∃ (x7_2 : Int), v7 = .int .i64 x7_2 ∧ Aside0 (incunablelaw15_ShapePieces.l0 kq t441 x7_2 a0_0 a0_1 l0_2 = some r) ∧ Aside0 (kq ≤ kj10) ∧ Aside0 (Kd.N k48 48 w' w.heap.size (fun k_ => some k_ ≠ ((.slice Ao23 t449.length co23) : Value).ownBlock ∧ k_ ≠ gb439 ∧ k_ ≠ gb453) (.slice Ao18 t441.length co18) t441) ∧ Aside0 (Kd.R (Kd.int .u8) 5 w' w.heap.size (fun _ => True) (.slice Ao23 t449.length co23) t449) ∧ Aside0 (w'.heap[gb439]? = some (.cells #[.int .i64 a0_0, .int .i64 a0_1, (.slice A0_2 l0_2.length c0_2)] 24 (0, 0))) ∧ Aside0 (w'.heap[gb453]? = some (.cells #[.int .i64 t447, .int .i64 t448, (.slice Ao23 t449.length co23)] 24 (0, 0))) ∧ Aside0 (Below w.heap.size w w'))
      case atStart => exact ⟨(0), rq, H', ⟨Nat.le_refl _⟩, ⟨by (with_reducible repeat (first | apply Kd.N_alloc | apply Kd.N_drewN | apply Kd.N_drew)); exact HO_3.out⟩, ⟨rU HO_454002.out⟩, ⟨bU BK439.out⟩, ⟨bU BK453.out⟩, ⟨bl⟩⟩
      case round =>
       clear H'
       obtain ⟨x7_2, rfl, HA, HK2, HO_3, HO_454002, BK439, BK453, HB⟩ := hrel
       cases gk with
       | zero => exact absurd HA.out (by simp [incunablelaw15_ShapePieces.l0])
       | succ k2 =>
        have H := HA.out
        clear HA
        simp only [incunablelaw15_ShapePieces.l0] at H
        by_cases c32 : x7_2 < (t441.length : Int)
        ·rw [if_pos c32] at H
         have c32b0 := decide_eq_true c32
         clear c32
         by_cases c33 : 0 ≤ x7_2
         ·rw [if_pos c33] at H
          have c33b0 := decide_eq_true c33
          clear c33
          replace H := Option.bind_eq_some_iff.mp H
          obtain ⟨⟨t457, t458, t459, t462, t463, t464⟩, A340, H⟩ := H
          replace H : (if ((rd_T48 t441 x7_2).f0.f0) < 1 then (some false) else (if ((rd_T48 t441 x7_2).f0.f1) < 1 then (some false) else (if ((rd_T48 t441 x7_2).f0.f0) > 40 then (some false) else (if ((rd_T48 t441 x7_2).f0.f1) > 40 then (some false) else (if t462 = 0 then (if t463 = 0 then ((incunableref05_Same.f t457 t458 t459 ((rd_T48 t441 x7_2).f0.f0) ((rd_T48 t441 x7_2).f0.f1) ((rd_T48 t441 x7_2).f0.f2)).bind fun t466 => (if t466 = true then (incunablelaw15_ShapePieces.l0 k2 t441 (wrap64 (x7_2 + 1)) a0_0 a0_1 l0_2) else (some false))) else (some false)) else (some false)))))) = some r := H
          have A34 := Aside0.mk A340
          clear A340
          by_cases c35 : ((rd_T48 t441 x7_2).f0.f0) < 1
          ·rw [if_pos c35] at H
           have c35b0 := decide_eq_true c35
           clear c35
           exact absurd ((Option.some.inj H).trans HR_.out) (by decide)
          ·rw [if_neg c35] at H
           have c35b0 := decide_eq_false c35
           clear c35
           by_cases c36 : ((rd_T48 t441 x7_2).f0.f1) < 1
           ·rw [if_pos c36] at H
            have c36b0 := decide_eq_true c36
            clear c36
            exact absurd ((Option.some.inj H).trans HR_.out) (by decide)
           ·rw [if_neg c36] at H
            have c36b0 := decide_eq_false c36
            clear c36
            by_cases c37 : ((rd_T48 t441 x7_2).f0.f0) > 40
            ·rw [if_pos c37] at H
             have c37b0 := decide_eq_true c37
             clear c37
             exact absurd ((Option.some.inj H).trans HR_.out) (by decide)
            ·rw [if_neg c37] at H
             have c37b0 := decide_eq_false c37
             clear c37
             by_cases c38 : ((rd_T48 t441 x7_2).f0.f1) > 40
             ·rw [if_pos c38] at H
              have c38b0 := decide_eq_true c38
              clear c38
              exact absurd ((Option.some.inj H).trans HR_.out) (by decide)
             ·rw [if_neg c38] at H
              have c38b0 := decide_eq_false c38
              clear c38
              by_cases c39 : t462 = 0
              ·rw [if_pos c39] at H
               have c39b0 := beq_iff_eq.mpr c39
               have c39b1 := bne_eq_false_iff_eq.mpr c39
               clear c39
               by_cases c40 : t463 = 0
               ·rw [if_pos c40] at H
                have c40b0 := beq_iff_eq.mpr c40
                have c40b1 := bne_eq_false_iff_eq.mpr c40
                clear c40
                replace H := Option.bind_eq_some_iff.mp H
                obtain ⟨t466, A410, H⟩ := H
                replace H : (if t466 = true then (incunablelaw15_ShapePieces.l0 k2 t441 (wrap64 (x7_2 + 1)) a0_0 a0_1 l0_2) else (some false)) = some r := H
                have A41 := Aside0.mk A410
                clear A410
                by_cases c42 : t466 = true
                ·subst c42
                 have H1 : (incunablelaw15_ShapePieces.l0 k2 t441 (wrap64 (x7_2 + 1)) a0_0 a0_1 l0_2) = some r := by rw [if_pos rfl] at H; exact H
                 clear H
                 have H := H1
                 clear H1
                 have H' := Aside0.mk H
                 clear H
                 have p455 : 0 ≤ (x7_2 : Int) := dt
                 have q455 : x7_2 < (t441.length : Int) := dt
                 obtain ⟨ad455, A455_2, c455_2, e455, hx455_0, hx455_1, hx455_2, hx455_3, hx455_4, hl455_2, hi455_2⟩ := at_T48 (Kd.N_reads' HO_3.out).2.2 x7_2 p455 q455
                 cases e455
                 obtain ⟨ce455, hce455, hMe455, hcc455⟩ := Kd.N_get HO_3.out z48 x7_2 p455 (by first | exact q455 | exact dt | (have e_ := (Kd.N_reads' HO_3.out).1; omega))
                 obtain ⟨ua455_2, uc455_2, rfl, ul455_2, ge455_2⟩ := k48_openF hMe455
                 have hv455_2 := hcc455 2 _ rfl
                 rw [add_field _ _ 2 (by omega)] at hv455_2
                 replace hv455_2 := Option.some.inj (hv455_2.symm.trans hx455_2)
                 injection hv455_2 with hva_ hvn_ hvc_
                 rw [hva_] at ge455_2
                 rw [hvc_] at ul455_2
                 have HL455_2 := Aside0.mk (show Kd.V (Kd.int .u8) 5 _ w.heap.size _ _ ((rd_T48 t441 x7_2).f0.f2) from Kd.V_mk ul455_2 ge455_2)
                 clear hva_ hvn_ hvc_ ge455_2 ul455_2
                 clear hcc455 hce455
                 have HR455_2 := Aside0.mk hi455_2
                 have HC455_2 := Aside0.mk hl455_2
                 clear hi455_2 hl455_2
                 replace p455 := eq_true p455
                 replace q455 := eq_true q455
                 go_wp2_with (first | ((with_reducible refine gd 8 rfl ?_); (try (refine gate_guard (by rfl) ?_; dsimp only)); refine bx 8 #[.int .i64 0, .int .i64 0, .slice none 0 0] 24 rfl rfl ?_; intro gb456 hg w43 hbox hb; have n_ := aC (Kd.N_below (Kd.N_elderB (by (with_reducible repeat (first | apply Kd.N_alloc | apply Kd.N_drewN | apply Kd.N_drew)); exact HO_3.out) gb456 (Nat.le_of_eq hg.symm)) hb) (aC (Kd.R_below (rU HO_454002.out) hb) (aC (Kd.V_below (Kd.V_elderB (by (with_reducible repeat (first | apply Kd.V_alloc | apply Kd.V_drewN | apply Kd.V_drew)); exact HL455_2.out) gb456 (Nat.le_of_eq hg.symm)) hb) (aC (blk_below (bU BK439.out) hb) (aC (blk_below (bU BK453.out) hb) (aC (Kd.C_below (by repeat (first | (with_reducible exact HR455_2.out) | (with_reducible refine Kd.C_alloc ?_ _) | (with_reducible refine Kd.C_drewN ?_ _) | (with_reducible refine Kd.C_drew ?_) | exact HR455_2.out)) hb) (aC (bs hb) (aC hbox (aC (gz hg) (aC (gz hg) (aC (gn hg (bU BK439.out)) (aC (gm hg (bU BK439.out)) (aC (gn hg (bU BK453.out)) (aE (gm hg (bU BK453.out))))))))))))))); clear HO_3 HO_454002 HL455_2 BK439 BK453 HR455_2 HB; obtain ⟨HO_3, HO_454002, HL455_2, BK439, BK453, HR455_2, HB, BK456, GW456, GE456, NB439_456, NB456_439, NB453_456, NB456_453⟩ := n_; clear hb hbox hg; have hnb44 := NB456_439.out; have hnc44 := NB439_456.out; have hnb45 := NB456_453.out; have hnc45 := NB453_456.out; obtain ⟨hcz46_0, hcz46_1, hcz46_2, hfz46_0, hfz46_1, hfz46_2⟩ := cz3f BK456.out) | ((with_reducible refine gf 34 rfl ?_); refine gL (some 72) rfl rfl Try.func34 rfl #[.agg #[.int .i64 ((rd_T48 t441 x7_2).f0.f0), .int .i64 ((rd_T48 t441 x7_2).f0.f1), .slice A455_2 ((rd_T48 t441 x7_2).f0.f2).length c455_2]] rfl ?_; (with_reducible refine (incunableref05_Trim.calls k2 ((rd_T48 t441 x7_2).f0.f0) ((rd_T48 t441 x7_2).f0.f1) _ _ ((rd_T48 t441 x7_2).f0.f2) t457 t458 t459 t462 t463 t464 _ ?side1 ?side2 A34.out).mono ?_); (case side1 => repeat (first | exact ((Kd.V_reads' (by (with_reducible repeat (first | apply Kd.V_alloc | apply Kd.V_drewN | apply Kd.V_drew)); exact (Kd.V_mono (Kd.V_far (p := ⟨gb456, 2, none⟩) (Kd.V_far (p := ⟨gb456, 1, none⟩) (Kd.V_far (p := ⟨gb456, 0, none⟩) (Kd.V_mono HL455_2.out (fun k_ hk => (⟨hk, hk.2⟩ : _ ∧ k_ ≠ gb456))) (fun _ hk => hk.2) (.int .i64 ((rd_T48 t441 x7_2).f0.f0))) (fun _ hk => hk.2) (.int .i64 ((rd_T48 t441 x7_2).f0.f1))) (fun _ hk => hk.2) (.slice A455_2 ((rd_T48 t441 x7_2).f0.f2).length c455_2)) (fun _ h_ => h_.1)))).2.2) | (with_reducible refine Kd.C_alloc ?_ _) | (with_reducible refine Kd.C_drewN ?_ _) | (with_reducible refine Kd.C_drew ?_))); (case side2 => exact HC455_2.out); rintro e w47 ⟨v460, rfl, ho0, hb⟩; refine ⟨_, rfl, ?_⟩; have n_ := aC (Kd.N_elder' (by (with_reducible repeat (first | apply Kd.N_alloc | apply Kd.N_drewN | apply Kd.N_drew)); exact (Kd.N_mono (Kd.N_far (p := ⟨gb456, 2, none⟩) (Kd.N_far (p := ⟨gb456, 1, none⟩) (Kd.N_far (p := ⟨gb456, 0, none⟩) (Kd.N_mono HO_3.out (fun k_ hk => (⟨hk, hk.2⟩ : _ ∧ k_ ≠ gb456))) (fun _ hk => hk.2) (.int .i64 ((rd_T48 t441 x7_2).f0.f0))) (fun _ hk => hk.2) (.int .i64 ((rd_T48 t441 x7_2).f0.f1))) (fun _ hk => hk.2) (.slice A455_2 ((rd_T48 t441 x7_2).f0.f2).length c455_2)) (fun _ h_ => h_.1))) (Kd.R_base ho0) hb) (aC (Kd.R_elder' (rU (Kd.R_mono (Kd.R_far (p := ⟨gb456, 2, none⟩) (Kd.R_far (p := ⟨gb456, 1, none⟩) (Kd.R_far (p := ⟨gb456, 0, none⟩) (Kd.R_types HO_454002.out BK456.out (by decide)) (fun _ hk => hk.2) (.int .i64 ((rd_T48 t441 x7_2).f0.f0))) (fun _ hk => hk.2) (.int .i64 ((rd_T48 t441 x7_2).f0.f1))) (fun _ hk => hk.2) (.slice A455_2 ((rd_T48 t441 x7_2).f0.f2).length c455_2)) (fun _ h_ => h_.1))) (Kd.R_base ho0) hb) (aC (Kd.V_elder' (by (with_reducible repeat (first | apply Kd.V_alloc | apply Kd.V_drewN | apply Kd.V_drew)); exact (Kd.V_mono (Kd.V_far (p := ⟨gb456, 2, none⟩) (Kd.V_far (p := ⟨gb456, 1, none⟩) (Kd.V_far (p := ⟨gb456, 0, none⟩) (Kd.V_mono HL455_2.out (fun k_ hk => (⟨hk, hk.2⟩ : _ ∧ k_ ≠ gb456))) (fun _ hk => hk.2) (.int .i64 ((rd_T48 t441 x7_2).f0.f0))) (fun _ hk => hk.2) (.int .i64 ((rd_T48 t441 x7_2).f0.f1))) (fun _ hk => hk.2) (.slice A455_2 ((rd_T48 t441 x7_2).f0.f2).length c455_2)) (fun _ h_ => h_.1))) (Kd.R_base ho0) hb) (aC (Kd.R_lower (Kd.R_new' ho0 (Kd.R_lt (rU (Kd.R_mono (Kd.R_far (p := ⟨gb456, 2, none⟩) (Kd.R_far (p := ⟨gb456, 1, none⟩) (Kd.R_far (p := ⟨gb456, 0, none⟩) (Kd.R_types HO_454002.out BK456.out (by decide)) (fun _ hk => hk.2) (.int .i64 ((rd_T48 t441 x7_2).f0.f0))) (fun _ hk => hk.2) (.int .i64 ((rd_T48 t441 x7_2).f0.f1))) (fun _ hk => hk.2) (.slice A455_2 ((rd_T48 t441 x7_2).f0.f2).length c455_2)) (fun _ h_ => h_.1))))) bz) (aC (blk_below (g := gb439) (o := .cells #[.int .i64 a0_0, .int .i64 a0_1, .slice A0_2 l0_2.length c0_2] 24 (0, 0)) (by (with_reducible repeat (first | refine blk_drewN ?_ _ | refine blk_drew ?_ | refine blk_alloc ?_ _)); refine blk_far ?_ NB439_456.out _; (with_reducible repeat (first | refine blk_drewN ?_ _ | refine blk_drew ?_ | refine blk_alloc ?_ _)); refine blk_far ?_ NB439_456.out _; (with_reducible repeat (first | refine blk_drewN ?_ _ | refine blk_drew ?_ | refine blk_alloc ?_ _)); refine blk_far ?_ NB439_456.out _; (with_reducible repeat (first | refine blk_drewN ?_ _ | refine blk_drew ?_ | refine blk_alloc ?_ _)); exact BK439.out) hb) (aC (blk_below (g := gb453) (o := .cells #[.int .i64 t447, .int .i64 t448, .slice Ao23 t449.length co23] 24 (0, 0)) (by (with_reducible repeat (first | refine blk_drewN ?_ _ | refine blk_drew ?_ | refine blk_alloc ?_ _)); refine blk_far ?_ NB453_456.out _; (with_reducible repeat (first | refine blk_drewN ?_ _ | refine blk_drew ?_ | refine blk_alloc ?_ _)); refine blk_far ?_ NB453_456.out _; (with_reducible repeat (first | refine blk_drewN ?_ _ | refine blk_drew ?_ | refine blk_alloc ?_ _)); refine blk_far ?_ NB453_456.out _; (with_reducible repeat (first | refine blk_drewN ?_ _ | refine blk_drew ?_ | refine blk_alloc ?_ _)); exact BK453.out) hb) (aC (Kd.C_below ((Kd.V_reads' (by (with_reducible repeat (first | apply Kd.V_alloc | apply Kd.V_drewN | apply Kd.V_drew)); exact (Kd.V_mono (Kd.V_far (p := ⟨gb456, 2, none⟩) (Kd.V_far (p := ⟨gb456, 1, none⟩) (Kd.V_far (p := ⟨gb456, 0, none⟩) (Kd.V_mono HL455_2.out (fun k_ hk => (⟨hk, hk.2⟩ : _ ∧ k_ ≠ gb456))) (fun _ hk => hk.2) (.int .i64 ((rd_T48 t441 x7_2).f0.f0))) (fun _ hk => hk.2) (.int .i64 ((rd_T48 t441 x7_2).f0.f1))) (fun _ hk => hk.2) (.slice A455_2 ((rd_T48 t441 x7_2).f0.f2).length c455_2)) (fun _ h_ => h_.1)))).2.2) hb) (aC (blk_below (g := gb456) (o := .cells #[.int .i64 ((rd_T48 t441 x7_2).f0.f0), .int .i64 ((rd_T48 t441 x7_2).f0.f1), .slice A455_2 ((rd_T48 t441 x7_2).f0.f2).length c455_2] 24 (0, 0)) (by (with_reducible repeat (first | refine blk_drewN ?_ _ | refine blk_drew ?_ | refine blk_alloc ?_ _)); refine blk_put (cs := #[.int .i64 ((rd_T48 t441 x7_2).f0.f0), .int .i64 ((rd_T48 t441 x7_2).f0.f1), .slice none 0 0]) ?_ 2 _ rfl; (with_reducible repeat (first | refine blk_drewN ?_ _ | refine blk_drew ?_ | refine blk_alloc ?_ _)); refine blk_put (cs := #[.int .i64 ((rd_T48 t441 x7_2).f0.f0), .int .i64 0, .slice none 0 0]) ?_ 1 _ rfl; (with_reducible repeat (first | refine blk_drewN ?_ _ | refine blk_drew ?_ | refine blk_alloc ?_ _)); refine blk_put (cs := #[.int .i64 0, .int .i64 0, .slice none 0 0]) ?_ 0 _ rfl; (with_reducible repeat (first | refine blk_drewN ?_ _ | refine blk_drew ?_ | refine blk_alloc ?_ _)); exact BK456.out) hb) (aE (bs hb))))))))); clear HO_3 HO_454002 HL455_2 BK439 BK453 HR455_2 BK456 HB; obtain ⟨HO_3, HO_454002, HL455_2, HO461, BK439, BK453, HR455_2, BK456, HB⟩ := n_; (try clear hb); (try clear ho0)) | ((with_reducible refine gd 9 rfl ?_); (try (refine gate_guard (by rfl) ?_; dsimp only)); refine bx 9 #[.int .i64 0, .int .i64 0, .slice none 0 0] 24 rfl rfl ?_; intro gb465 hg w48 hbox hb; have n_ := aC (Kd.N_below (Kd.N_elderB (by (with_reducible repeat (first | apply Kd.N_alloc | apply Kd.N_drewN | apply Kd.N_drew)); exact HO_3.out) gb465 (Nat.le_of_eq hg.symm)) hb) (aC (Kd.R_below (rU HO_454002.out) hb) (aC (Kd.V_below (Kd.V_elderB (by (with_reducible repeat (first | apply Kd.V_alloc | apply Kd.V_drewN | apply Kd.V_drew)); exact HL455_2.out) gb465 (Nat.le_of_eq hg.symm)) hb) (aC (Kd.R_below (rU HO461.out) hb) (aC (blk_below (bU BK439.out) hb) (aC (blk_below (bU BK453.out) hb) (aC (Kd.C_below (by repeat (first | (with_reducible exact HR455_2.out) | (with_reducible refine Kd.C_alloc ?_ _) | (with_reducible refine Kd.C_drewN ?_ _) | (with_reducible refine Kd.C_drew ?_) | exact HR455_2.out)) hb) (aC (blk_below (g := gb456) (o := .cells #[.int .i64 ((rd_T48 t441 x7_2).f0.f0), .int .i64 ((rd_T48 t441 x7_2).f0.f1), .slice A455_2 ((rd_T48 t441 x7_2).f0.f2).length c455_2] 24 (0, 0)) (bU BK456.out) hb) (aC (bs hb) (aC hbox (aC (gz hg) (aC (gz hg) (aC (gn hg (bU BK439.out)) (aC (gm hg (bU BK439.out)) (aC (gn hg (bU BK453.out)) (aC (gm hg (bU BK453.out)) (aC ((by rw [hg]; exact Nat.ne_of_lt (blk_lt (g := gb456) (o := .cells #[.int .i64 ((rd_T48 t441 x7_2).f0.f0), .int .i64 ((rd_T48 t441 x7_2).f0.f1), .slice A455_2 ((rd_T48 t441 x7_2).f0.f2).length c455_2] 24 (0, 0)) (bU BK456.out)) : gb456 ≠ gb465)) (aE ((by rw [hg]; exact Nat.ne_of_gt (blk_lt (g := gb456) (o := .cells #[.int .i64 ((rd_T48 t441 x7_2).f0.f0), .int .i64 ((rd_T48 t441 x7_2).f0.f1), .slice A455_2 ((rd_T48 t441 x7_2).f0.f2).length c455_2] 24 (0, 0)) (bU BK456.out)) : gb465 ≠ gb456))))))))))))))))))); clear HO_3 HO_454002 HL455_2 HO461 BK439 BK453 HR455_2 BK456 HB; obtain ⟨HO_3, HO_454002, HL455_2, HO461, BK439, BK453, HR455_2, BK456, HB, BK465, GW465, GE465, NB439_465, NB465_439, NB453_465, NB465_453, NB456_465, NB465_456⟩ := n_; clear hb hbox hg; have hnb49 := NB465_439.out; have hnc49 := NB439_465.out; have hnb50 := NB465_453.out; have hnc50 := NB453_465.out; have hnb51 := NB465_456.out; have hnc51 := NB456_465.out; obtain ⟨hcz52_0, hcz52_1, hcz52_2, hfz52_0, hfz52_1, hfz52_2⟩ := cz3f BK465.out; obtain ⟨Ao53, co53, eo53⟩ := Kd.R_slice HO461.out; subst eo53; obtain ⟨hcz54_0, hcz54_1, hcz54_2, hfz54_0, hfz54_1, hfz54_2⟩ := cz3f BK456.out) | (go_at_call 25; (with_reducible refine (incunableref05_Same.calls t457 t458 _ _ t459 ((rd_T48 t441 x7_2).f0.f0) ((rd_T48 t441 x7_2).f0.f1) _ _ ((rd_T48 t441 x7_2).f0.f2) true _ ?side1 ?side2 ?side3 ?side4 A41.out).mono ?_); (case side1 => refine (Kd.R_reads' (e := 5) (base := w.heap.size) (ok := fun k_ => (True ∧ some k_ ≠ (.slice Ao23 t449.length co23 : Value).ownBlock)) (n := t459.length) (c := co53) ?_).2.2; exact (rU (Kd.R_mono (Kd.R_far (p := ⟨gb465, 2, none⟩) (Kd.R_far (p := ⟨gb465, 1, none⟩) (Kd.R_far (p := ⟨gb465, 0, none⟩) (Kd.R_types HO461.out BK465.out (by decide)) (fun _ hk => hk.2) (.int .i64 t457)) (fun _ hk => hk.2) (.int .i64 t458)) (fun _ hk => hk.2) (.slice Ao53 t459.length co53)) (fun _ h_ => h_.1)))); (case side2 => exact (Kd.R_reads' HO461.out).2.1); (case side3 => repeat (first | exact ((Kd.V_reads' (by (with_reducible repeat (first | apply Kd.V_alloc | apply Kd.V_drewN | apply Kd.V_drew)); exact (Kd.V_mono (Kd.V_far (p := ⟨gb465, 2, none⟩) (Kd.V_far (p := ⟨gb465, 1, none⟩) (Kd.V_far (p := ⟨gb465, 0, none⟩) (Kd.V_mono HL455_2.out (fun k_ hk => (⟨hk, hk.2⟩ : _ ∧ k_ ≠ gb465))) (fun _ hk => hk.2) (.int .i64 t457)) (fun _ hk => hk.2) (.int .i64 t458)) (fun _ hk => hk.2) (.slice Ao53 t459.length co53)) (fun _ h_ => h_.1)))).2.2) | (with_reducible refine Kd.C_alloc ?_ _) | (with_reducible refine Kd.C_drewN ?_ _) | (with_reducible refine Kd.C_drew ?_))); (case side4 => exact HC455_2.out); rintro e w55 ⟨rfl, hb⟩; have n_ := aC (Kd.N_below (by (with_reducible repeat (first | apply Kd.N_alloc | apply Kd.N_drewN | apply Kd.N_drew)); exact (Kd.N_mono (Kd.N_far (p := ⟨gb465, 2, none⟩) (Kd.N_far (p := ⟨gb465, 1, none⟩) (Kd.N_far (p := ⟨gb465, 0, none⟩) (Kd.N_mono HO_3.out (fun k_ hk => (⟨hk, hk.2⟩ : _ ∧ k_ ≠ gb465))) (fun _ hk => hk.2) (.int .i64 t457)) (fun _ hk => hk.2) (.int .i64 t458)) (fun _ hk => hk.2) (.slice Ao53 t459.length co53)) (fun _ h_ => h_.1))) hb) (aC (Kd.R_below (rU (Kd.R_mono (Kd.R_far (p := ⟨gb465, 2, none⟩) (Kd.R_far (p := ⟨gb465, 1, none⟩) (Kd.R_far (p := ⟨gb465, 0, none⟩) (Kd.R_types HO_454002.out BK465.out (by decide)) (fun _ hk => hk.2) (.int .i64 t457)) (fun _ hk => hk.2) (.int .i64 t458)) (fun _ hk => hk.2) (.slice Ao53 t459.length co53)) (fun _ h_ => h_.1))) hb) (aC (Kd.V_below (by (with_reducible repeat (first | apply Kd.V_alloc | apply Kd.V_drewN | apply Kd.V_drew)); exact (Kd.V_mono (Kd.V_far (p := ⟨gb465, 2, none⟩) (Kd.V_far (p := ⟨gb465, 1, none⟩) (Kd.V_far (p := ⟨gb465, 0, none⟩) (Kd.V_mono HL455_2.out (fun k_ hk => (⟨hk, hk.2⟩ : _ ∧ k_ ≠ gb465))) (fun _ hk => hk.2) (.int .i64 t457)) (fun _ hk => hk.2) (.int .i64 t458)) (fun _ hk => hk.2) (.slice Ao53 t459.length co53)) (fun _ h_ => h_.1))) hb) (aC (Kd.R_below (rU (Kd.R_mono (Kd.R_far (p := ⟨gb465, 2, none⟩) (Kd.R_far (p := ⟨gb465, 1, none⟩) (Kd.R_far (p := ⟨gb465, 0, none⟩) (Kd.R_types HO461.out BK465.out (by decide)) (fun _ hk => hk.2) (.int .i64 t457)) (fun _ hk => hk.2) (.int .i64 t458)) (fun _ hk => hk.2) (.slice Ao53 t459.length co53)) (fun _ h_ => h_.1))) hb) (aC (blk_below (g := gb439) (o := .cells #[.int .i64 a0_0, .int .i64 a0_1, .slice A0_2 l0_2.length c0_2] 24 (0, 0)) (by (with_reducible repeat (first | refine blk_drewN ?_ _ | refine blk_drew ?_ | refine blk_alloc ?_ _)); refine blk_far ?_ NB439_465.out _; (with_reducible repeat (first | refine blk_drewN ?_ _ | refine blk_drew ?_ | refine blk_alloc ?_ _)); refine blk_far ?_ NB439_465.out _; (with_reducible repeat (first | refine blk_drewN ?_ _ | refine blk_drew ?_ | refine blk_alloc ?_ _)); refine blk_far ?_ NB439_465.out _; (with_reducible repeat (first | refine blk_drewN ?_ _ | refine blk_drew ?_ | refine blk_alloc ?_ _)); exact BK439.out) hb) (aC (blk_below (g := gb453) (o := .cells #[.int .i64 t447, .int .i64 t448, .slice Ao23 t449.length co23] 24 (0, 0)) (by (with_reducible repeat (first | refine blk_drewN ?_ _ | refine blk_drew ?_ | refine blk_alloc ?_ _)); refine blk_far ?_ NB453_465.out _; (with_reducible repeat (first | refine blk_drewN ?_ _ | refine blk_drew ?_ | refine blk_alloc ?_ _)); refine blk_far ?_ NB453_465.out _; (with_reducible repeat (first | refine blk_drewN ?_ _ | refine blk_drew ?_ | refine blk_alloc ?_ _)); refine blk_far ?_ NB453_465.out _; (with_reducible repeat (first | refine blk_drewN ?_ _ | refine blk_drew ?_ | refine blk_alloc ?_ _)); exact BK453.out) hb) (aC (Kd.C_below ((Kd.V_reads' (by (with_reducible repeat (first | apply Kd.V_alloc | apply Kd.V_drewN | apply Kd.V_drew)); exact (Kd.V_mono (Kd.V_far (p := ⟨gb465, 2, none⟩) (Kd.V_far (p := ⟨gb465, 1, none⟩) (Kd.V_far (p := ⟨gb465, 0, none⟩) (Kd.V_mono HL455_2.out (fun k_ hk => (⟨hk, hk.2⟩ : _ ∧ k_ ≠ gb465))) (fun _ hk => hk.2) (.int .i64 t457)) (fun _ hk => hk.2) (.int .i64 t458)) (fun _ hk => hk.2) (.slice Ao53 t459.length co53)) (fun _ h_ => h_.1)))).2.2) hb) (aC (blk_below (g := gb456) (o := .cells #[.int .i64 ((rd_T48 t441 x7_2).f0.f0), .int .i64 ((rd_T48 t441 x7_2).f0.f1), .slice A455_2 ((rd_T48 t441 x7_2).f0.f2).length c455_2] 24 (0, 0)) (by (with_reducible repeat (first | refine blk_drewN ?_ _ | refine blk_drew ?_ | refine blk_alloc ?_ _)); refine blk_far ?_ NB456_465.out _; (with_reducible repeat (first | refine blk_drewN ?_ _ | refine blk_drew ?_ | refine blk_alloc ?_ _)); refine blk_far ?_ NB456_465.out _; (with_reducible repeat (first | refine blk_drewN ?_ _ | refine blk_drew ?_ | refine blk_alloc ?_ _)); refine blk_far ?_ NB456_465.out _; (with_reducible repeat (first | refine blk_drewN ?_ _ | refine blk_drew ?_ | refine blk_alloc ?_ _)); exact BK456.out) hb) (aC (blk_below (g := gb465) (o := .cells #[.int .i64 t457, .int .i64 t458, .slice Ao53 t459.length co53] 24 (0, 0)) (by (with_reducible repeat (first | refine blk_drewN ?_ _ | refine blk_drew ?_ | refine blk_alloc ?_ _)); refine blk_put (cs := #[.int .i64 t457, .int .i64 t458, .slice none 0 0]) ?_ 2 _ rfl; (with_reducible repeat (first | refine blk_drewN ?_ _ | refine blk_drew ?_ | refine blk_alloc ?_ _)); refine blk_put (cs := #[.int .i64 t457, .int .i64 0, .slice none 0 0]) ?_ 1 _ rfl; (with_reducible repeat (first | refine blk_drewN ?_ _ | refine blk_drew ?_ | refine blk_alloc ?_ _)); refine blk_put (cs := #[.int .i64 0, .int .i64 0, .slice none 0 0]) ?_ 0 _ rfl; (with_reducible repeat (first | refine blk_drewN ?_ _ | refine blk_drew ?_ | refine blk_alloc ?_ _)); exact BK465.out) hb) (aE (bs hb)))))))))); clear HO_3 HO_454002 HL455_2 HO461 BK439 BK453 HR455_2 BK456 BK465 HB; obtain ⟨HO_3, HO_454002, HL455_2, HO461, BK439, BK453, HR455_2, BK456, BK465, HB⟩ := n_; (try clear hb)))
                 go_roundg k2
                 case measure => have := HJ10.out; have := HK2.out; omega
                 case rel => exact ⟨(wrap64 (x7_2 + 1)), rq, H', ⟨by have := HJ10.out; have := HK2.out; omega⟩, ⟨by (with_reducible repeat (first | apply Kd.N_alloc | apply Kd.N_drewN | apply Kd.N_drew)); exact Kd.N_mono HO_3.out (fun _ hk => ⟨hk.1.1.1.1, ⟨hk.1.1.1.2.1, hk.1.1.1.2.2⟩⟩)⟩, ⟨rU (Kd.R_mono HO_454002.out (fun _ hk => trivial))⟩, ⟨bU BK439.out⟩, ⟨bU BK453.out⟩, ⟨bl⟩⟩
                ·replace c42 := Bool.eq_false_iff.mpr c42
                 subst c42
                 have H1 : (some false) = some r := by rw [if_neg (show ¬ (false = true) by decide)] at H; exact H
                 clear H
                 have H := H1
                 clear H1
                 exact absurd ((Option.some.inj H).trans HR_.out) (by decide)
               ·rw [if_neg c40] at H
                have c40b0 := beq_eq_false_iff_ne.mpr c40
                have c40b1 := bne_iff_ne.mpr c40
                exact absurd ((Option.some.inj H).trans HR_.out) (by decide)
              ·rw [if_neg c39] at H
               have c39b0 := beq_eq_false_iff_ne.mpr c39
               have c39b1 := bne_iff_ne.mpr c39
               exact absurd ((Option.some.inj H).trans HR_.out) (by decide)
         ·rw [if_neg c33] at H
          exact absurd H (by simp)
        ·rw [if_neg c32] at H
         have c32b0 := decide_eq_false c32
         clear c32
         replace H := Option.bind_eq_some_iff.mp H
         obtain ⟨t467, A560, H⟩ := H
         replace H : (if t467 = true then ((incunablelaw15_Sane.f k2).bind fun t468 => (some t468)) else ((incunableref15_Pieces.f k2 a0_0 a0_1 l0_2).bind fun bt469 => ((incunableref15_SamePlaced.f k2 t441 bt469.1).bind fun t473 => (if t473 = true then ((incunablelaw15_Sane.f k2).bind fun t474 => (some t474)) else (some false))))) = some r := H
         have A56 := Aside0.mk A560
         clear A560
         by_cases c57 : t467 = true
         ·subst c57
          have H1 : ((incunablelaw15_Sane.f k2).bind fun t468 => (some t468)) = some r := by rw [if_pos rfl] at H; exact H
          clear H
          have H := H1
          clear H1
          replace H := Option.bind_eq_some_iff.mp H
          obtain ⟨t468, A580, H⟩ := H
          replace H : (some t468) = some r := H
          have A58 := Aside0.mk A580
          clear A580
          obtain rfl := Option.some.inj H
          have hnb59 := NB439_453.out
          have hnc59 := NB453_439.out
          obtain ⟨hcz60_0, hcz60_1, hcz60_2, hfz60_0, hfz60_1, hfz60_2⟩ := cz3f BK439.out
          go_wp2_with (first | ((with_reducible refine gf 20 rfl ?_); refine gL (some 110) rfl rfl Try.func20 rfl #[.agg #[.int .i64 a0_0, .int .i64 a0_1, .slice A0_2 l0_2.length c0_2]] rfl ?_; (with_reducible refine (incunablelaw15_Large.calls a0_0 a0_1 _ _ l0_2 true _ ?side1 ?side2 A56.out).mono ?_); (case side1 => exact cU (Kd.C_below HR0_2.out HB.out)); (case side2 => exact HC0_2.out); rintro e w61 ⟨rfl, hb⟩; refine ⟨_, rfl, ?_⟩; have n_ := aC (Kd.N_below (by (with_reducible repeat (first | apply Kd.N_alloc | apply Kd.N_drewN | apply Kd.N_drew)); exact HO_3.out) hb) (aC (Kd.R_below (rU HO_454002.out) hb) (aC (blk_below (bU BK439.out) hb) (aC (blk_below (bU BK453.out) hb) (aE (bs hb))))); clear HO_3 HO_454002 BK439 BK453 HB; obtain ⟨HO_3, HO_454002, BK439, BK453, HB⟩ := n_; (try clear hb)) | ((with_reducible refine gf 11 rfl ?_); refine gL (some 111) rfl rfl Try.func11 rfl #[] rfl ?_; (with_reducible refine (incunablelaw15_Sane.calls k2  t468 _ A58.out).mono ?_); rintro e w62 ⟨rfl, hb⟩; refine ⟨_, rfl, ?_⟩; have n_ := aC (Kd.N_below (by (with_reducible repeat (first | apply Kd.N_alloc | apply Kd.N_drewN | apply Kd.N_drew)); exact HO_3.out) hb) (aC (Kd.R_below (rU HO_454002.out) hb) (aC (blk_below (bU BK439.out) hb) (aC (blk_below (bU BK453.out) hb) (aE (bs hb))))); clear HO_3 HO_454002 BK439 BK453 HB; obtain ⟨HO_3, HO_454002, BK439, BK453, HB⟩ := n_; (try clear hb)))
          go_ret
          exact ⟨re, bl⟩
         ·replace c57 := Bool.eq_false_iff.mpr c57
          subst c57
          have H1 : ((incunableref15_Pieces.f k2 a0_0 a0_1 l0_2).bind fun bt469 => ((incunableref15_SamePlaced.f k2 t441 bt469.1).bind fun t473 => (if t473 = true then ((incunablelaw15_Sane.f k2).bind fun t474 => (some t474)) else (some false)))) = some r := by rw [if_neg (show ¬ (false = true) by decide)] at H; exact H
          clear H
          have H := H1
          clear H1
          replace H := Option.bind_eq_some_iff.mp H
          obtain ⟨⟨t469, t472⟩, A630, H⟩ := H
          replace H : ((incunableref15_SamePlaced.f k2 t441 t469).bind fun t473 => (if t473 = true then ((incunablelaw15_Sane.f k2).bind fun t474 => (some t474)) else (some false))) = some r := H
          have A63 := Aside0.mk A630
          clear A630
          replace H := Option.bind_eq_some_iff.mp H
          obtain ⟨t473, A640, H⟩ := H
          replace H : (if t473 = true then ((incunablelaw15_Sane.f k2).bind fun t474 => (some t474)) else (some false)) = some r := H
          have A64 := Aside0.mk A640
          clear A640
          by_cases c65 : t473 = true
          ·subst c65
           have H1 : ((incunablelaw15_Sane.f k2).bind fun t474 => (some t474)) = some r := by rw [if_pos rfl] at H; exact H
           clear H
           have H := H1
           clear H1
           replace H := Option.bind_eq_some_iff.mp H
           obtain ⟨t474, A660, H⟩ := H
           replace H : (some t474) = some r := H
           have A66 := Aside0.mk A660
           clear A660
           obtain rfl := Option.some.inj H
           have hnb67 := NB439_453.out
           have hnc67 := NB453_439.out
           obtain ⟨hcz68_0, hcz68_1, hcz68_2, hfz68_0, hfz68_1, hfz68_2⟩ := cz3f BK439.out
           go_wp2_with (first | ((with_reducible refine gf 20 rfl ?_); refine gL (some 110) rfl rfl Try.func20 rfl #[.agg #[.int .i64 a0_0, .int .i64 a0_1, .slice A0_2 l0_2.length c0_2]] rfl ?_; (with_reducible refine (incunablelaw15_Large.calls a0_0 a0_1 _ _ l0_2 false _ ?side1 ?side2 A56.out).mono ?_); (case side1 => exact cU (Kd.C_below HR0_2.out HB.out)); (case side2 => exact HC0_2.out); rintro e w69 ⟨rfl, hb⟩; refine ⟨_, rfl, ?_⟩; have n_ := aC (Kd.N_below (by (with_reducible repeat (first | apply Kd.N_alloc | apply Kd.N_drewN | apply Kd.N_drew)); exact HO_3.out) hb) (aC (Kd.R_below (rU HO_454002.out) hb) (aC (blk_below (bU BK439.out) hb) (aC (blk_below (bU BK453.out) hb) (aE (bs hb))))); clear HO_3 HO_454002 BK439 BK453 HB; obtain ⟨HO_3, HO_454002, BK439, BK453, HB⟩ := n_; (try clear hb); obtain ⟨hcz70_0, hcz70_1, hcz70_2, hfz70_0, hfz70_1, hfz70_2⟩ := cz3f BK439.out) | ((with_reducible refine gf 35 rfl ?_); refine gL (some 114) rfl rfl Try.func35 rfl #[.agg #[.int .i64 a0_0, .int .i64 a0_1, .slice A0_2 l0_2.length c0_2]] rfl ?_; (with_reducible refine (incunableref15_Pieces.calls k2 a0_0 a0_1 _ _ l0_2 t469 t472 _ ?side1 ?side2 A63.out).mono ?_); (case side1 => exact cU (Kd.C_below HR0_2.out HB.out)); (case side2 => exact HC0_2.out); rintro e w71 ⟨v470, rfl, ho0, hb⟩; refine ⟨_, rfl, ?_⟩; have n_ := aC (Kd.N_elder' (by (with_reducible repeat (first | apply Kd.N_alloc | apply Kd.N_drewN | apply Kd.N_drew)); exact HO_3.out) (Kd.S_base ho0) hb) (aC (Kd.R_below (rU HO_454002.out) hb) (aC (Kd.N_lower (Kd.N_mono (ok' := fun k_ => some k_ ≠ (.slice Ao18 t441.length co18 : Value).ownBlock ∧ some k_ ≠ (.slice Ao23 t449.length co23 : Value).ownBlock ∧ k_ ≠ gb439 ∧ k_ ≠ gb453) (Kd.S_N (Kd.S_bound ho0)) (fun k_ hk_ => ⟨(Kd.fresh' (Kd.N_lt (by (with_reducible repeat (first | apply Kd.N_alloc | apply Kd.N_drewN | apply Kd.N_drew)); exact HO_3.out)) k_ hk_.2.1), (Kd.fresh' (Kd.R_lt (rU HO_454002.out)) k_ hk_.2.1), (Kd.freshB (bU BK439.out) k_ hk_.2.1), (Kd.freshB (bU BK453.out) k_ hk_.2.1)⟩)) bz) (aC (blk_below (bU BK439.out) hb) (aC (blk_below (bU BK453.out) hb) (aE (bs hb)))))); clear HO_3 HO_454002 BK439 BK453 HB; obtain ⟨HO_3, HO_454002, HO471, BK439, BK453, HB⟩ := n_; (try clear hb); (try clear ho0); obtain ⟨Ao72, co72, eo72⟩ := Kd.N_slice HO471.out; subst eo72) | ((with_reducible refine gf 23 rfl ?_); refine gL (some 119) rfl rfl Try.func23 rfl #[.slice Ao18 t441.length co18, .slice Ao72 t469.length co72] rfl ?_; (with_reducible refine (incunableref15_SamePlaced.calls k2 _ _ t441 _ _ t469 true _ ?side1 ?side2 ?side3 ?side4 A64.out).mono ?_); (case side1 => exact cU (Kd.N_reads' HO_3.out).2.2); (case side2 => exact (Kd.N_reads' HO_3.out).2.1); (case side3 => exact cU (Kd.N_reads' HO471.out).2.2); (case side4 => exact (Kd.N_reads' HO471.out).2.1); rintro e w73 ⟨rfl, hb⟩; refine ⟨_, rfl, ?_⟩; have n_ := aC (Kd.N_below (by (with_reducible repeat (first | apply Kd.N_alloc | apply Kd.N_drewN | apply Kd.N_drew)); exact HO_3.out) hb) (aC (Kd.R_below (rU HO_454002.out) hb) (aC (Kd.N_below (by (with_reducible repeat (first | apply Kd.N_alloc | apply Kd.N_drewN | apply Kd.N_drew)); exact HO471.out) hb) (aC (blk_below (bU BK439.out) hb) (aC (blk_below (bU BK453.out) hb) (aE (bs hb)))))); clear HO_3 HO_454002 HO471 BK439 BK453 HB; obtain ⟨HO_3, HO_454002, HO471, BK439, BK453, HB⟩ := n_; (try clear hb)) | (go_at_call 11; (with_reducible refine (incunablelaw15_Sane.calls k2  t474 _ A66.out).mono ?_); rintro e w74 ⟨rfl, hb⟩; have n_ := aC (Kd.N_below (by (with_reducible repeat (first | apply Kd.N_alloc | apply Kd.N_drewN | apply Kd.N_drew)); exact HO_3.out) hb) (aC (Kd.R_below (rU HO_454002.out) hb) (aC (Kd.N_below (by (with_reducible repeat (first | apply Kd.N_alloc | apply Kd.N_drewN | apply Kd.N_drew)); exact HO471.out) hb) (aC (blk_below (bU BK439.out) hb) (aC (blk_below (bU BK453.out) hb) (aE (bs hb)))))); clear HO_3 HO_454002 HO471 BK439 BK453 HB; obtain ⟨HO_3, HO_454002, HO471, BK439, BK453, HB⟩ := n_; (try clear hb)))
           go_ret
           exact ⟨re, bl⟩
          ·replace c65 := Bool.eq_false_iff.mpr c65
           subst c65
           have H1 : (some false) = some r := by rw [if_neg (show ¬ (false = true) by decide)] at H; exact H
           clear H
           have H := H1
           clear H1
           exact absurd ((Option.some.inj H).trans HR_.out) (by decide)
  ·replace c9 := Bool.eq_false_iff.mpr c9
   subst c9
   have H1 : (if t444 = 30 then (if (t441.length : Int) = 0 then ((incunablelaw15_Sane.f k).bind fun t446 => (some t446)) else (some false)) else (some false)) = some r := by rw [if_neg (show ¬ (false = true) by decide)] at H; exact H
   clear H
   have H := H1
   clear H1
   by_cases c75 : t444 = 30
   ·rw [if_pos c75] at H
    have c75b0 := beq_iff_eq.mpr c75
    have c75b1 := bne_eq_false_iff_eq.mpr c75
    clear c75
    by_cases c76 : (t441.length : Int) = 0
    ·rw [if_pos c76] at H
     have c76b0 := beq_iff_eq.mpr c76
     have c76b1 := bne_eq_false_iff_eq.mpr c76
     clear c76
     replace H := Option.bind_eq_some_iff.mp H
     obtain ⟨t446, A770, H⟩ := H
     replace H : (some t446) = some r := H
     have A77 := Aside0.mk A770
     clear A770
     obtain rfl := Option.some.inj H
     go_enter Try.func8, Try.ntmps8
     go_wp2_with (first | ((with_reducible refine gd 1 rfl ?_); (try (refine gate_guard (by rfl) ?_; dsimp only)); refine bx 1 #[.int .i64 a0_0, .int .i64 a0_1, .slice A0_2 l0_2.length c0_2] 24 rfl rfl ?_; intro gb439 hg w78 hbox hb; have n_ := aC (bs hb) (aC hbox (aC (gz hg) (aE (gz hg)))); clear HB; obtain ⟨HB, BK439, GW439, GE439⟩ := n_; clear hb hbox hg; obtain ⟨hcz79_0, hcz79_1, hcz79_2, hfz79_0, hfz79_1, hfz79_2⟩ := cz3f BK439.out) | ((with_reducible refine gf 32 rfl ?_); refine gL (some 22) rfl rfl Try.func32 rfl #[.agg #[.int .i64 a0_0, .int .i64 a0_1, .slice A0_2 l0_2.length c0_2]] rfl ?_; (with_reducible refine (shape_Pieces.calls k a0_0 a0_1 _ _ l0_2 t441 t444 _ ?side1 ?side2 A7.out).mono ?_); (case side1 => exact cU (Kd.C_below HR0_2.out HB.out)); (case side2 => exact HC0_2.out); rintro e w80 ⟨v442, rfl, ho0, hb⟩; refine ⟨_, rfl, ?_⟩; have n_ := aC (Kd.N_lower (Kd.N_mono (ok' := fun k_ => k_ ≠ gb439) ho0 (fun k_ hk_ => (Kd.freshB (bU BK439.out) k_ hk_))) bz) (aC (blk_below (bU BK439.out) hb) (aE (bs hb))); clear BK439 HB; obtain ⟨HO443, BK439, HB⟩ := n_; (try clear hb); (try clear ho0); obtain ⟨hcz81_0, hcz81_1, hcz81_2, hfz81_0, hfz81_1, hfz81_2⟩ := cz3f BK439.out) | ((with_reducible refine gf 33 rfl ?_); refine gL (some 26) rfl rfl Try.func33 rfl #[.agg #[.int .i64 a0_0, .int .i64 a0_1, .slice A0_2 l0_2.length c0_2]] rfl ?_; (with_reducible refine (incunableref05_Valid.calls k a0_0 a0_1 _ _ l0_2 false _ ?side1 ?side2 A8.out).mono ?_); (case side1 => exact cU (Kd.C_below HR0_2.out HB.out)); (case side2 => exact HC0_2.out); rintro e w82 ⟨rfl, hb⟩; refine ⟨_, rfl, ?_⟩; have n_ := aC (Kd.N_below (by (with_reducible repeat (first | apply Kd.N_alloc | apply Kd.N_drewN | apply Kd.N_drew)); exact HO443.out) hb) (aC (blk_below (bU BK439.out) hb) (aE (bs hb))); clear HO443 BK439 HB; obtain ⟨HO443, BK439, HB⟩ := n_; (try clear hb); obtain ⟨Ao83, co83, eo83⟩ := Kd.N_slice HO443.out; subst eo83) | (go_at_call 11; (with_reducible refine (incunablelaw15_Sane.calls k  t446 _ A77.out).mono ?_); rintro e w84 ⟨rfl, hb⟩; have n_ := aC (Kd.N_below (by (with_reducible repeat (first | apply Kd.N_alloc | apply Kd.N_drewN | apply Kd.N_drew)); exact HO443.out) hb) (aC (blk_below (bU BK439.out) hb) (aE (bs hb))); clear HO443 BK439 HB; obtain ⟨HO443, BK439, HB⟩ := n_; (try clear hb)))
     go_ret
     exact ⟨re, bl⟩
    ·rw [if_neg c76] at H
     have c76b0 := beq_eq_false_iff_ne.mpr c76
     have c76b1 := bne_iff_ne.mpr c76
     have c76b2 : ¬ (t441 = []) := fun h_ => c76 (by rw [h_]; rfl)
     exact absurd ((Option.some.inj H).trans HR_.out) (by decide)
   ·rw [if_neg c75] at H
    have c75b0 := beq_eq_false_iff_ne.mpr c75
    have c75b1 := bne_iff_ne.mpr c75
    exact absurd ((Option.some.inj H).trans HR_.out) (by decide)

/-- THE ONE PURE STATEMENT of incunablelaw15_ShapePieces: yours. -/
def incunablelaw15_ShapePieces.Pure : Prop := ∀ (a0_0 : Int) (a0_1 : Int) (l0_2 : List Int), ((Lit.int .i64 a0_0).wf = true) → ((Lit.int .i64 a0_1).wf = true) → (l0_2.length ≤ 9223372036854775807 ∧ l0_2.length * 1 ≤ 140737488351232 ∧ ∀ y0_ ∈ l0_2, (Lit.int .u8 y0_).wf = true) → ∃ k, incunablelaw15_ShapePieces.f k a0_0 a0_1 l0_2 = some true
theorem incunablelaw15_ShapePieces.walk (P : incunablelaw15_ShapePieces.Pure) (a0_0 : Int) (a0_1 : Int) (A0_2 : Option Addr) (c0_2 : Nat) (l0_2 : List Int) (w : World) (hr0_2 : Kd.C (Kd.int .u8) w A0_2 l0_2.length l0_2) (hc0_2 : l0_2.length ≤ c0_2) (g0_0 : (Lit.int .i64 a0_0).wf = true) (g0_1 : (Lit.int .i64 a0_1).wf = true) (g0_2 : l0_2.length ≤ 9223372036854775807 ∧ l0_2.length * 1 ≤ 140737488351232 ∧ ∀ y0_ ∈ l0_2, (Lit.int .u8 y0_).wf = true) :
  Calls Try.prog 8 #[.agg #[.int .i64 a0_0, .int .i64 a0_1, .slice A0_2 l0_2.length c0_2]] w fun e w' => e = .returned (.bool true) ∧ Below w.heap.size w w' := by
 obtain ⟨k, h⟩ := P a0_0 a0_1 l0_2 g0_0 g0_1 g0_2
 refine (incunablelaw15_ShapePieces.calls k a0_0 a0_1 A0_2 c0_2 l0_2 true w hr0_2 hc0_2 h rfl).mono ?_
 rintro e w' ⟨rfl, hd⟩
 exact ⟨rfl, hd⟩

end Go.Proofs.Ytaflekobfbgedaa.PShapePieces
