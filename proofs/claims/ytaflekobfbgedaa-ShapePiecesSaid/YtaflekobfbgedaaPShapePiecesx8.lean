-- Written by a program of this session (wip/tools/myprint.py) over the kit's print. Not trusted: Lean checks it.
import Derived.Test.YtaflekobfbgedaaPShapePiecesx0
import Derived.Test.YtaflekobfbgedaaPShapePiecesx1
import Derived.Test.YtaflekobfbgedaaPShapePiecesx3
import Derived.Test.YtaflekobfbgedaaPShapePiecesx6
import Derived.Test.YtaflekobfbgedaaPShapePiecesx7
namespace Go.Proofs.Ytaflekobfbgedaa.PShapePieces
open Go.RowKit Go.Proofs.YtaflekobfbgedaaW.PrintWords Go.Proofs.YtaflekobfbgedaaW.PrintLast Go.Proofs.YtaflekobfbgedaaW.PrintMore
attribute [local go_sem] max2_int min2_int max_two min_two max_three min_three max_four min_four   -- for this text's walks alone
set_option linter.unusedVariables false
set_option linter.unusedSimpArgs false

/-! ### shape_Draw: function 24 -/
mutual
def shape_Draw.j0 : Nat → List (S48) → Bool → Int → Int → List Int → Option (Int × Int × List Int × Int)
 | 0, _, _, _, _, _ => none
 | k + 1, x2, x24, x254000, x254001, x254002 => if x24 = true then (some (0, 0, ([] : List Int), 30)) else (shape_Draw.l0 k x2 (x2.length : Int) 0 x254000 x254001 x254002)
def shape_Draw.l0 : Nat → List (S48) → Int → Int → Int → Int → List Int → Option (Int × Int × List Int × Int)
 | 0, _, _, _, _, _, _ => none
 | k + 1, x26, x27, x28, x254000, x254001, x254002 => if x28 < x27 then (if 0 ≤ x28 then (if x28 < (x26.length : Int) then ((shape_near.f ((rd_T48 x26 x28).f1)).bind fun t257 => (if t257 = true then ((shape_near.f ((rd_T48 x26 x28).f2)).bind fun t258 => (if t258 = true then ((bitmap_Draw.f k x254000 x254001 x254002 ((rd_T48 x26 x28).f0.f0) ((rd_T48 x26 x28).f0.f1) ((rd_T48 x26 x28).f0.f2) ((rd_T48 x26 x28).f1) ((rd_T48 x26 x28).f2) 1).bind fun bt259 => (shape_Draw.l0 k x26 x27 (wrap64 (x28 + 1)) bt259.1 bt259.2.1 bt259.2.2.1)) else (some (0, 0, ([] : List Int), 2)))) else (some (0, 0, ([] : List Int), 2)))) else (none)) else (none)) else (some (x254000, x254001, x254002, 0))
end
def shape_Draw.f (k : Nat) (a0 : Int) (a1 : Int) (l2 : List (S48)) : Option (Int × Int × List Int × Int) := (bitmap_New.f k a0 a1 0).bind fun bt247 => (if bt247.2.2.2 = 0 then ((shape_rightPlaced.f k l2).bind fun t254 => (shape_Draw.j0 k l2 (!t254) bt247.1 bt247.2.1 bt247.2.2.1)) else (shape_Draw.j0 k l2 true bt247.1 bt247.2.1 bt247.2.2.1))
theorem shape_Draw.mono_l : ∀ k, (∀ y0 y1 y2 y3 y4, LeO (shape_Draw.j0 k y0 y1 y2 y3 y4) (shape_Draw.j0 (k + 1) y0 y1 y2 y3 y4)) ∧ (∀ y0 y1 y2 y3 y4 y5, LeO (shape_Draw.l0 k y0 y1 y2 y3 y4 y5) (shape_Draw.l0 (k + 1) y0 y1 y2 y3 y4 y5))
 | 0 => ⟨fun _ _ _ _ _ r h => by simp [shape_Draw.j0] at h, fun _ _ _ _ _ _ r h => by simp [shape_Draw.l0] at h⟩
 | k + 1 => by
  obtain ⟨ih0, ih1⟩ := shape_Draw.mono_l k
  refine ⟨?_, ?_⟩
  ·intro y0 y1 y2 y3 y4
   unfold shape_Draw.j0
   repeat' first
   | (with_reducible exact ih0 _ _ _ _ _)
   | (with_reducible exact ih1 _ _ _ _ _ _)
   | (with_reducible exact bitmap_Draw.mono _ _ _ _ _ _ _ _ _ _)
   | (with_reducible exact bitmap_New.mono _ _ _ _)
   | (with_reducible exact shape_rightPlaced.mono _ _)
   | (with_reducible first | exact LeO.refl _ | exact LeO.none _ | refine LeO.ite ?_ ?_ | refine LeO.bind ?_ (fun _ => ?_))
   | exact ih0 _ _ _ _ _
   | exact ih1 _ _ _ _ _ _
   | exact bitmap_Draw.mono _ _ _ _ _ _ _ _ _ _
   | exact bitmap_New.mono _ _ _ _
   | exact shape_rightPlaced.mono _ _
   | exact LeO.none _ | refine LeO.ite ?_ ?_ | refine LeO.bind ?_ (fun _ => ?_)
  ·intro y0 y1 y2 y3 y4 y5
   unfold shape_Draw.l0
   repeat' first
   | (with_reducible exact ih0 _ _ _ _ _)
   | (with_reducible exact ih1 _ _ _ _ _ _)
   | (with_reducible exact bitmap_Draw.mono _ _ _ _ _ _ _ _ _ _)
   | (with_reducible exact bitmap_New.mono _ _ _ _)
   | (with_reducible exact shape_rightPlaced.mono _ _)
   | (with_reducible first | exact LeO.refl _ | exact LeO.none _ | refine LeO.ite ?_ ?_ | refine LeO.bind ?_ (fun _ => ?_))
   | exact ih0 _ _ _ _ _
   | exact ih1 _ _ _ _ _ _
   | exact bitmap_Draw.mono _ _ _ _ _ _ _ _ _ _
   | exact bitmap_New.mono _ _ _ _
   | exact shape_rightPlaced.mono _ _
   | exact LeO.none _ | refine LeO.ite ?_ ?_ | refine LeO.bind ?_ (fun _ => ?_)
theorem shape_Draw.mono : ∀ a0 a1 a2 k, LeO (shape_Draw.f k a0 a1 a2) (shape_Draw.f (k + 1) a0 a1 a2) := by
 intro a0 a1 a2 k
 obtain ⟨ih0, ih1⟩ := shape_Draw.mono_l k
 unfold shape_Draw.f
 repeat' first
   | (with_reducible exact ih0 _ _ _ _ _)
   | (with_reducible exact ih1 _ _ _ _ _ _)
   | (with_reducible exact bitmap_Draw.mono _ _ _ _ _ _ _ _ _ _)
   | (with_reducible exact bitmap_New.mono _ _ _ _)
   | (with_reducible exact shape_rightPlaced.mono _ _)
   | (with_reducible first | exact LeO.refl _ | exact LeO.none _ | refine LeO.ite ?_ ?_ | refine LeO.bind ?_ (fun _ => ?_))
   | exact ih0 _ _ _ _ _
   | exact ih1 _ _ _ _ _ _
   | exact bitmap_Draw.mono _ _ _ _ _ _ _ _ _ _
   | exact bitmap_New.mono _ _ _ _
   | exact shape_rightPlaced.mono _ _
   | exact LeO.none _ | refine LeO.ite ?_ ?_ | refine LeO.bind ?_ (fun _ => ?_)
set_option maxHeartbeats 8000000 in
set_option maxRecDepth 100000 in
theorem shape_Draw.calls (k : Nat) (a0 : Int) (a1 : Int) (A2 : Option Addr) (c2 : Nat) (l2 : List (S48)) (r1 : Int) (r2 : Int) (r3 : List Int) (r4 : Int) (w : World) (hr2 : Kd.C k48 w A2 l2.length l2) (hc2 : l2.length ≤ c2) (h : shape_Draw.f k a0 a1 l2 = some (r1, r2, r3, r4)) :
  Calls Try.prog 24 #[.int .i64 a0, .int .i64 a1, .slice A2 l2.length c2] w fun e w' => ∃ v2_ : Value, e = .returned (.tuple #[.agg #[.int .i64 r1, .int .i64 r2, v2_], .int .i64 r4]) ∧ Kd.R (Kd.int .u8) 5 w' w.heap.size (fun _ => True) v2_ r3 ∧ Below w.heap.size w w' := by
 have hu24 := Try.underlying24
 have hu48 := Try.underlying48
 have HR2 := Aside0.mk hr2
 have HC2 := Aside0.mk hc2
 clear hr2 hc2
 have HB := Aside0.mk (Below.refl w.heap.size w)
 have H : ((bitmap_New.f k a0 a1 0).bind fun bt247 => (if bt247.2.2.2 = 0 then ((shape_rightPlaced.f k l2).bind fun t254 => (shape_Draw.j0 k l2 (!t254) bt247.1 bt247.2.1 bt247.2.2.1)) else (shape_Draw.j0 k l2 true bt247.1 bt247.2.1 bt247.2.2.1))) = some (r1, r2, r3, r4) := h
 clear h
 replace H := Option.bind_eq_some_iff.mp H
 obtain ⟨⟨t247, t248, t249, t252⟩, A40, H⟩ := H
 replace H : (if t252 = 0 then ((shape_rightPlaced.f k l2).bind fun t254 => (shape_Draw.j0 k l2 (!t254) t247 t248 t249)) else (shape_Draw.j0 k l2 true t247 t248 t249)) = some (r1, r2, r3, r4) := H
 have A4 := Aside0.mk A40
 clear A40
 have HC5 := Aside0.mk H
 clear H
 go_enter Try.func24, Try.ntmps24
 go_upto_region 2 with (first | ((with_reducible refine gd 6 rfl ?_); refine bx 6 #[.int .i64 0, .int .i64 0, .slice none 0 0] 24 rfl rfl ?_; intro gb246 hg w6 hbox hb; have n_ := aC (bs hb) (aC hbox (aC (gz hg) (aE (gz hg)))); clear HB; obtain ⟨HB, BK246, GW246, GE246⟩ := n_; clear hb hbox hg) | ((with_reducible refine gf 54 rfl ?_); refine gL (some 15) rfl rfl Try.func54 rfl #[.int .i64 a0, .int .i64 a1, .int .i64 0] rfl ?_; (with_reducible refine (bitmap_New.calls k a0 a1 0 t247 t248 t249 t252 _ A4.out).mono ?_); rintro e w7 ⟨v250, rfl, ho0, hb⟩; refine ⟨_, rfl, ?_⟩; have n_ := aC (Kd.R_lower ho0 bz) (aC (blk_below (bU BK246.out) hb) (aE (bs hb))); clear BK246 HB; obtain ⟨HO251, BK246, HB⟩ := n_; (try clear hb); (try clear ho0)) | ((with_reducible refine gd 8 rfl ?_); refine bx 8 #[.int .i64 0, .int .i64 0, .slice none 0 0] 24 rfl rfl ?_; intro gb253 hg w8 hbox hb; have n_ := aC (Kd.R_below (rU HO251.out) hb) (aC (blk_below (bU BK246.out) hb) (aC (bs hb) (aC hbox (aC (gz hg) (aC (gz hg) (aC (gn hg (bU BK246.out)) (aE (gm hg (bU BK246.out))))))))); clear HO251 BK246 HB; obtain ⟨HO251, BK246, HB, BK253, GW253, GE253, NB246_253, NB253_246⟩ := n_; clear hb hbox hg; have hnb9 := NB253_246.out; have hnc9 := NB246_253.out; obtain ⟨hcz10_0, hcz10_1, hcz10_2, hfz10_0, hfz10_1, hfz10_2⟩ := cz3f BK253.out; obtain ⟨Ao11, co11, eo11⟩ := Kd.R_slice HO251.out; subst eo11))
 (try simp only [Act.put, List.setIfInBounds_toArray, List.set_cons_zero, List.set_cons_succ])
 go_cut [24] (fun v24 wc => ∃ (kq : Nat) (x24_4 : Bool), v24 = .bool x24_4 ∧ Aside0 (shape_Draw.j0 kq l2 x24_4 t247 t248 t249 = some (r1, r2, r3, r4)) ∧ Aside0 (kq ≤ k) ∧ Aside0 (Kd.R (Kd.int .u8) 5 wc w.heap.size (fun _ => True) (.slice Ao11 t249.length co11) t249) ∧ Aside0 (wc.heap[gb246]? = some (.cells #[.int .i64 0, .int .i64 0, (.slice none 0 0)] 24 (0, 0))) ∧ Aside0 (wc.heap[gb253]? = some (.cells #[.int .i64 t247, .int .i64 t248, (.slice Ao11 t249.length co11)] 24 (0, 0))) ∧ Aside0 (Below w.heap.size w wc))
 case first =>
  have H := HC5.out
  clear HC5
  by_cases c12 : t252 = 0
  ·rw [if_pos c12] at H
   have c12b0 := beq_iff_eq.mpr c12
   have c12b1 := bne_eq_false_iff_eq.mpr c12
   clear c12
   (first | rw [c12b0] | (simp only [i64_w, i32_w]; rw [c12b0]) | skip)
   replace H := Option.bind_eq_some_iff.mp H
   obtain ⟨t254, A130, H⟩ := H
   replace H : (shape_Draw.j0 k l2 (!t254) t247 t248 t249) = some (r1, r2, r3, r4) := H
   have A13 := Aside0.mk A130
   clear A130
   have H' := Aside0.mk H
   clear H
   go_wp2_with (first | (go_at_call 55; (with_reducible refine (shape_rightPlaced.calls k _ _ l2 t254 _ ?side1 ?side2 A13.out).mono ?_); (case side1 => exact Kd.C_below HR2.out bl); (case side2 => exact HC2.out); rintro e w14 ⟨rfl, hb⟩; have n_ := aC (Kd.R_below (rU (Kd.R_mono (Kd.R_far (p := ⟨gb253, 2, none⟩) (Kd.R_far (p := ⟨gb253, 1, none⟩) (Kd.R_far (p := ⟨gb253, 0, none⟩) (Kd.R_types HO251.out BK253.out (by decide)) (fun _ hk => hk.2) (.int .i64 t247)) (fun _ hk => hk.2) (.int .i64 t248)) (fun _ hk => hk.2) (.slice Ao11 t249.length co11)) (fun _ h_ => h_.1))) hb) (aC (blk_below (g := gb246) (o := .cells #[.int .i64 0, .int .i64 0, .slice none 0 0] 24 (0, 0)) (by (with_reducible repeat (first | refine blk_drewN ?_ _ | refine blk_drew ?_ | refine blk_alloc ?_ _)); refine blk_far ?_ NB246_253.out _; (with_reducible repeat (first | refine blk_drewN ?_ _ | refine blk_drew ?_ | refine blk_alloc ?_ _)); refine blk_far ?_ NB246_253.out _; (with_reducible repeat (first | refine blk_drewN ?_ _ | refine blk_drew ?_ | refine blk_alloc ?_ _)); refine blk_far ?_ NB246_253.out _; (with_reducible repeat (first | refine blk_drewN ?_ _ | refine blk_drew ?_ | refine blk_alloc ?_ _)); exact BK246.out) hb) (aC (blk_below (g := gb253) (o := .cells #[.int .i64 t247, .int .i64 t248, .slice Ao11 t249.length co11] 24 (0, 0)) (by (with_reducible repeat (first | refine blk_drewN ?_ _ | refine blk_drew ?_ | refine blk_alloc ?_ _)); refine blk_put (cs := #[.int .i64 t247, .int .i64 t248, .slice none 0 0]) ?_ 2 _ rfl; (with_reducible repeat (first | refine blk_drewN ?_ _ | refine blk_drew ?_ | refine blk_alloc ?_ _)); refine blk_put (cs := #[.int .i64 t247, .int .i64 0, .slice none 0 0]) ?_ 1 _ rfl; (with_reducible repeat (first | refine blk_drewN ?_ _ | refine blk_drew ?_ | refine blk_alloc ?_ _)); refine blk_put (cs := #[.int .i64 0, .int .i64 0, .slice none 0 0]) ?_ 0 _ rfl; (with_reducible repeat (first | refine blk_drewN ?_ _ | refine blk_drew ?_ | refine blk_alloc ?_ _)); exact BK253.out) hb) (aE (bs hb)))); clear HO251 BK246 BK253 HB; obtain ⟨HO251, BK246, BK253, HB⟩ := n_; (try clear hb)))
   go_meet
   case rel => exact ⟨_, (!t254), rq, H', ⟨by first | omega | exact Nat.le_refl _⟩, ⟨rU HO251.out⟩, ⟨bU BK246.out⟩, ⟨bU BK253.out⟩, ⟨bl⟩⟩
  ·rw [if_neg c12] at H
   have c12b0 := beq_eq_false_iff_ne.mpr c12
   have c12b1 := bne_iff_ne.mpr c12
   (first | rw [c12b0] | (simp only [i64_w, i32_w]; rw [c12b0]) | skip)
   have H' := Aside0.mk H
   clear H
   go_wp2
   go_meet
   case rel => exact ⟨_, (true), rq, H', ⟨by first | omega | exact Nat.le_refl _⟩, ⟨rU (Kd.R_mono (Kd.R_far (p := ⟨gb253, 2, none⟩) (Kd.R_far (p := ⟨gb253, 1, none⟩) (Kd.R_far (p := ⟨gb253, 0, none⟩) (Kd.R_types HO251.out BK253.out (by decide)) (fun _ hk => hk.2) (.int .i64 t247)) (fun _ hk => hk.2) (.int .i64 t248)) (fun _ hk => hk.2) (.slice Ao11 t249.length co11)) (fun _ hk => trivial))⟩, ⟨by (with_reducible repeat (first | refine blk_drewN ?_ _ | refine blk_drew ?_ | refine blk_alloc ?_ _)); refine blk_far ?_ NB246_253.out _; (with_reducible repeat (first | refine blk_drewN ?_ _ | refine blk_drew ?_ | refine blk_alloc ?_ _)); refine blk_far ?_ NB246_253.out _; (with_reducible repeat (first | refine blk_drewN ?_ _ | refine blk_drew ?_ | refine blk_alloc ?_ _)); refine blk_far ?_ NB246_253.out _; (with_reducible repeat (first | refine blk_drewN ?_ _ | refine blk_drew ?_ | refine blk_alloc ?_ _)); exact BK246.out⟩, ⟨by (with_reducible repeat (first | refine blk_drewN ?_ _ | refine blk_drew ?_ | refine blk_alloc ?_ _)); refine blk_put (cs := #[.int .i64 t247, .int .i64 t248, .slice none 0 0]) ?_ 2 _ rfl; (with_reducible repeat (first | refine blk_drewN ?_ _ | refine blk_drew ?_ | refine blk_alloc ?_ _)); refine blk_put (cs := #[.int .i64 t247, .int .i64 0, .slice none 0 0]) ?_ 1 _ rfl; (with_reducible repeat (first | refine blk_drewN ?_ _ | refine blk_drew ?_ | refine blk_alloc ?_ _)); refine blk_put (cs := #[.int .i64 0, .int .i64 0, .slice none 0 0]) ?_ 0 _ rfl; (with_reducible repeat (first | refine blk_drewN ?_ _ | refine blk_drew ?_ | refine blk_alloc ?_ _)); exact BK253.out⟩, ⟨bl⟩⟩
 case rest =>
  clear HC5
  try clear c2
  obtain ⟨kq, x24_4, rfl, HA, HJ4, HO_254002, BK246, BK253, HB⟩ := hcut
  cases kq with
  | zero => exact absurd HA.out (by simp [shape_Draw.j0])
  | succ kj4 =>
   have H := HA.out
   clear HA
   simp only [shape_Draw.j0] at H
   by_cases c15 : x24_4 = true
   ·subst c15
    have H1 : (some (0, 0, ([] : List Int), 30)) = some (r1, r2, r3, r4) := by rw [if_pos rfl] at H; exact H
    clear H
    have H := H1
    clear H1
    simp only [Option.some.injEq, Prod.mk.injEq] at H
    obtain ⟨rfl, rfl, rfl, rfl⟩ := H
    have hnb16 := NB246_253.out
    have hnc16 := NB253_246.out
    obtain ⟨hcz17_0, hcz17_1, hcz17_2, hfz17_0, hfz17_1, hfz17_2⟩ := cz3f BK246.out
    go_wp2
    refine bodyPost_ret (results_ct rfl _ _ gb246 24 #[.int .i64 0, .int .i64 0, .slice none 0 0] (0, 0) _ rfl (by (with_reducible repeat (first | refine blk_drewN ?_ _ | refine blk_drew ?_ | refine blk_alloc ?_ _)); refine blk_put (cs := #[.int .i64 0, .int .i64 0, .slice none 0 0]) ?_ 2 _ rfl; (with_reducible repeat (first | refine blk_drewN ?_ _ | refine blk_drew ?_ | refine blk_alloc ?_ _)); refine blk_put (cs := #[.int .i64 0, .int .i64 0, .slice none 0 0]) ?_ 1 _ rfl; (with_reducible repeat (first | refine blk_drewN ?_ _ | refine blk_drew ?_ | refine blk_alloc ?_ _)); refine blk_put (cs := #[.int .i64 0, .int .i64 0, .slice none 0 0]) ?_ 0 _ rfl; (with_reducible repeat (first | refine blk_drewN ?_ _ | refine blk_drew ?_ | refine blk_alloc ?_ _)); exact BK246.out) Try.underlying24 rfl (by kernel_rfl)) rfl ?_
    exact ⟨_, re, by first | exact Kd.R_nil _ _ _ _ _ | exact Kd.N_nil _ _ _ _ _ | exact Kd.V_nil _ _ _ _ _ | exact Kd.Q_nil _ _ _ _ _ | exact Kd.S_nil _ _ _ _ _, bl⟩
   ·replace c15 := Bool.eq_false_iff.mpr c15
    subst c15
    have H1 : (shape_Draw.l0 kj4 l2 (l2.length : Int) 0 t247 t248 t249) = some (r1, r2, r3, r4) := by rw [if_neg (show ¬ (false = true) by decide)] at H; exact H
    clear H
    have H := H1
    clear H1
    have H' := Aside0.mk H
    clear H
    go_wp2
    go_loopg [28] kj4 (fun kq v28 w' => ∃ (x28_2 : Int) (x247000_2 : Int) (x247001_2 : Int) (x254000_2 : Int) (x254001_2 : Int) (x254002_2 : List Int) (u254002 : Value), v28 = .int .i64 x28_2 ∧ Aside0 (shape_Draw.l0 kq l2 (l2.length : Int) x28_2 x254000_2 x254001_2 x254002_2 = some (r1, r2, r3, r4)) ∧ Aside0 (kq ≤ kj4) ∧ Aside0 (Kd.R (Kd.int .u8) 5 w' w.heap.size (fun _ => True) u254002 x254002_2) ∧ Aside0 (w'.heap[gb246]? = some (.cells #[.int .i64 x247000_2, .int .i64 x247001_2, (.slice none 0 0)] 24 (0, 0))) ∧ Aside0 (w'.heap[gb253]? = some (.cells #[.int .i64 x254000_2, .int .i64 x254001_2, u254002] 24 (0, 0))) ∧ Aside0 (Below w.heap.size w w'))
    case atStart => exact ⟨(0), (0), (0), (t247), (t248), (t249), (.slice Ao11 t249.length co11), rq, H', ⟨Nat.le_refl _⟩, ⟨rU HO_254002.out⟩, ⟨bU BK246.out⟩, ⟨bU BK253.out⟩, ⟨bl⟩⟩
    case round =>
     clear H'
     try clear c2
     obtain ⟨x28_2, x247000_2, x247001_2, x254000_2, x254001_2, x254002_2, u254002, rfl, HA, HK2, HO_254002, BK246, BK253, HB⟩ := hrel
     cases gk with
     | zero => exact absurd HA.out (by simp [shape_Draw.l0])
     | succ k2 =>
      have H := HA.out
      clear HA
      simp only [shape_Draw.l0] at H
      by_cases c18 : x28_2 < (l2.length : Int)
      ·rw [if_pos c18] at H
       have c18b0 := decide_eq_true c18
       clear c18
       by_cases c19 : 0 ≤ x28_2
       ·rw [if_pos c19] at H
        have c19b0 := decide_eq_true c19
        clear c19
        by_cases c20 : x28_2 < (l2.length : Int)
        ·rw [if_pos c20] at H
         have c20b0 := decide_eq_true c20
         clear c20
         replace H := Option.bind_eq_some_iff.mp H
         obtain ⟨t257, A210, H⟩ := H
         replace H : (if t257 = true then ((shape_near.f ((rd_T48 l2 x28_2).f2)).bind fun t258 => (if t258 = true then ((bitmap_Draw.f k2 x254000_2 x254001_2 x254002_2 ((rd_T48 l2 x28_2).f0.f0) ((rd_T48 l2 x28_2).f0.f1) ((rd_T48 l2 x28_2).f0.f2) ((rd_T48 l2 x28_2).f1) ((rd_T48 l2 x28_2).f2) 1).bind fun bt259 => (shape_Draw.l0 k2 l2 (l2.length : Int) (wrap64 (x28_2 + 1)) bt259.1 bt259.2.1 bt259.2.2.1)) else (some (0, 0, ([] : List Int), 2)))) else (some (0, 0, ([] : List Int), 2))) = some (r1, r2, r3, r4) := H
         have A21 := Aside0.mk A210
         clear A210
         by_cases c22 : t257 = true
         ·subst c22
          have H1 : ((shape_near.f ((rd_T48 l2 x28_2).f2)).bind fun t258 => (if t258 = true then ((bitmap_Draw.f k2 x254000_2 x254001_2 x254002_2 ((rd_T48 l2 x28_2).f0.f0) ((rd_T48 l2 x28_2).f0.f1) ((rd_T48 l2 x28_2).f0.f2) ((rd_T48 l2 x28_2).f1) ((rd_T48 l2 x28_2).f2) 1).bind fun bt259 => (shape_Draw.l0 k2 l2 (l2.length : Int) (wrap64 (x28_2 + 1)) bt259.1 bt259.2.1 bt259.2.2.1)) else (some (0, 0, ([] : List Int), 2)))) = some (r1, r2, r3, r4) := by rw [if_pos rfl] at H; exact H
          clear H
          have H := H1
          clear H1
          replace H := Option.bind_eq_some_iff.mp H
          obtain ⟨t258, A230, H⟩ := H
          replace H : (if t258 = true then ((bitmap_Draw.f k2 x254000_2 x254001_2 x254002_2 ((rd_T48 l2 x28_2).f0.f0) ((rd_T48 l2 x28_2).f0.f1) ((rd_T48 l2 x28_2).f0.f2) ((rd_T48 l2 x28_2).f1) ((rd_T48 l2 x28_2).f2) 1).bind fun bt259 => (shape_Draw.l0 k2 l2 (l2.length : Int) (wrap64 (x28_2 + 1)) bt259.1 bt259.2.1 bt259.2.2.1)) else (some (0, 0, ([] : List Int), 2))) = some (r1, r2, r3, r4) := H
          have A23 := Aside0.mk A230
          clear A230
          by_cases c24 : t258 = true
          ·subst c24
           have H1 : ((bitmap_Draw.f k2 x254000_2 x254001_2 x254002_2 ((rd_T48 l2 x28_2).f0.f0) ((rd_T48 l2 x28_2).f0.f1) ((rd_T48 l2 x28_2).f0.f2) ((rd_T48 l2 x28_2).f1) ((rd_T48 l2 x28_2).f2) 1).bind fun bt259 => (shape_Draw.l0 k2 l2 (l2.length : Int) (wrap64 (x28_2 + 1)) bt259.1 bt259.2.1 bt259.2.2.1)) = some (r1, r2, r3, r4) := by rw [if_pos rfl] at H; exact H
           clear H
           have H := H1
           clear H1
           replace H := Option.bind_eq_some_iff.mp H
           obtain ⟨⟨t259, t260, t261, t264⟩, A250, H⟩ := H
           replace H : (shape_Draw.l0 k2 l2 (l2.length : Int) (wrap64 (x28_2 + 1)) t259 t260 t261) = some (r1, r2, r3, r4) := H
           have A25 := Aside0.mk A250
           clear A250
           have H' := Aside0.mk H
           clear H
           have p255 : 0 ≤ (x28_2 : Int) := dt
           have q255 : x28_2 < (l2.length : Int) := dt
           obtain ⟨ad255, A255_2, c255_2, e255, hx255_0, hx255_1, hx255_2, hx255_3, hx255_4, hl255_2, hi255_2⟩ := at_T48 HR2.out x28_2 p255 q255
           cases e255
           replace hx255_0 := hcB HB.out hx255_0
           replace hx255_1 := hcB HB.out hx255_1
           replace hx255_2 := hcB HB.out hx255_2
           replace hx255_3 := hcB HB.out hx255_3
           replace hx255_4 := hcB HB.out hx255_4
           have HR255_2 := Aside0.mk hi255_2
           have HC255_2 := Aside0.mk hl255_2
           clear hi255_2 hl255_2
           replace p255 := eq_true p255
           replace q255 := eq_true q255
           go_wp2_with (first | ((with_reducible refine gd 11 rfl ?_); refine bx 11 #[.int .i64 0, .int .i64 0, .slice none 0 0, .int .i64 0, .int .i64 0] 48 rfl rfl ?_; intro gb256 hg w26 hbox hb; have n_ := aC (Kd.R_below (rU HO_254002.out) hb) (aC (blk_below (bU BK246.out) hb) (aC (blk_below (bU BK253.out) hb) (aC (bs hb) (aC hbox (aC (gz hg) (aC (gz hg) (aC (gn hg (bU BK246.out)) (aC (gm hg (bU BK246.out)) (aC (gn hg (bU BK253.out)) (aE (gm hg (bU BK253.out)))))))))))); clear HO_254002 BK246 BK253 HB; obtain ⟨HO_254002, BK246, BK253, HB, BK256, GW256, GE256, NB246_256, NB256_246, NB253_256, NB256_253⟩ := n_; clear hb hbox hg; have hnb27 := NB256_246.out; have hnc27 := NB246_256.out; have hnb28 := NB256_253.out; have hnc28 := NB253_256.out; obtain ⟨hcz29_0, hcz29_1, hcz29_2, hcz29_3, hcz29_4, hfz29_0, hfz29_1, hfz29_2, hfz29_3, hfz29_4⟩ := cz5f BK256.out) | ((with_reducible refine gf 56 rfl ?_); refine gL (some 34) rfl rfl Try.func56 rfl #[.int .i64 ((rd_T48 l2 x28_2).f1)] rfl ?_; (with_reducible refine (shape_near.calls ((rd_T48 l2 x28_2).f1) true _ A21.out).mono ?_); rintro e w' ⟨rfl, ⟨nd, rfl⟩⟩; refine ⟨_, rfl, ?_⟩) | (go_at_call 56; (with_reducible refine (shape_near.calls ((rd_T48 l2 x28_2).f2) true _ A23.out).mono ?_); rintro e w' ⟨rfl, ⟨nd, rfl⟩⟩; have hnb30 := NB253_246.out; have hnc30 := NB246_253.out; obtain ⟨hcz31_0, hcz31_1, hcz31_2, hfz31_0, hfz31_1, hfz31_2⟩ := cz3f BK253.out; obtain ⟨Ao32, co32, eo32⟩ := Kd.R_slice HO_254002.out; subst eo32) | ((with_reducible refine gf 57 rfl ?_); refine gL (some 51) rfl rfl Try.func57 rfl #[.agg #[.int .i64 x254000_2, .int .i64 x254001_2, .slice Ao32 x254002_2.length co32], .agg #[.int .i64 ((rd_T48 l2 x28_2).f0.f0), .int .i64 ((rd_T48 l2 x28_2).f0.f1), .slice A255_2 ((rd_T48 l2 x28_2).f0.f2).length c255_2], .int .i64 ((rd_T48 l2 x28_2).f1), .int .i64 ((rd_T48 l2 x28_2).f2), .int .i64 1] rfl ?_; (with_reducible refine (bitmap_Draw.calls k2 x254000_2 x254001_2 _ _ x254002_2 ((rd_T48 l2 x28_2).f0.f0) ((rd_T48 l2 x28_2).f0.f1) _ _ ((rd_T48 l2 x28_2).f0.f2) ((rd_T48 l2 x28_2).f1) ((rd_T48 l2 x28_2).f2) 1 t259 t260 t261 t264 _ ?side1 ?side2 ?side3 ?side4 A25.out).mono ?_); (case side1 => refine (Kd.R_reads' (e := 5) (base := w.heap.size) (ok := fun k_ => True) (n := x254002_2.length) (c := co32) ?_).2.2; exact (rU (Kd.R_mono (Kd.R_far (p := ⟨gb256, 4, none⟩) (Kd.R_far (p := ⟨gb256, 3, none⟩) (Kd.R_far (p := ⟨gb256, 2, none⟩) (Kd.R_far (p := ⟨gb256, 1, none⟩) (Kd.R_far (p := ⟨gb256, 0, none⟩) (Kd.R_types HO_254002.out BK256.out (by decide)) (fun _ hk => hk.2) (.int .i64 ((rd_T48 l2 x28_2).f0.f0))) (fun _ hk => hk.2) (.int .i64 ((rd_T48 l2 x28_2).f0.f1))) (fun _ hk => hk.2) (.slice A255_2 ((rd_T48 l2 x28_2).f0.f2).length c255_2)) (fun _ hk => hk.2) (.int .i64 ((rd_T48 l2 x28_2).f1))) (fun _ hk => hk.2) (.int .i64 ((rd_T48 l2 x28_2).f2))) (fun _ h_ => h_.1)))); (case side2 => exact (Kd.R_reads' HO_254002.out).2.1); (case side3 => exact Kd.C_below HR255_2.out bl); (case side4 => exact HC255_2.out); rintro e w33 ⟨v262, rfl, ho0, hb⟩; refine ⟨_, rfl, ?_⟩; have n_ := aC (Kd.R_elder' (rU (Kd.R_mono (Kd.R_far (p := ⟨gb256, 4, none⟩) (Kd.R_far (p := ⟨gb256, 3, none⟩) (Kd.R_far (p := ⟨gb256, 2, none⟩) (Kd.R_far (p := ⟨gb256, 1, none⟩) (Kd.R_far (p := ⟨gb256, 0, none⟩) (Kd.R_types HO_254002.out BK256.out (by decide)) (fun _ hk => hk.2) (.int .i64 ((rd_T48 l2 x28_2).f0.f0))) (fun _ hk => hk.2) (.int .i64 ((rd_T48 l2 x28_2).f0.f1))) (fun _ hk => hk.2) (.slice A255_2 ((rd_T48 l2 x28_2).f0.f2).length c255_2)) (fun _ hk => hk.2) (.int .i64 ((rd_T48 l2 x28_2).f1))) (fun _ hk => hk.2) (.int .i64 ((rd_T48 l2 x28_2).f2))) (fun _ h_ => h_.1))) (Kd.R_base ho0) hb) (aC (Kd.R_lower (Kd.R_new' ho0 (Kd.R_lt (rU (Kd.R_mono (Kd.R_far (p := ⟨gb256, 4, none⟩) (Kd.R_far (p := ⟨gb256, 3, none⟩) (Kd.R_far (p := ⟨gb256, 2, none⟩) (Kd.R_far (p := ⟨gb256, 1, none⟩) (Kd.R_far (p := ⟨gb256, 0, none⟩) (Kd.R_types HO_254002.out BK256.out (by decide)) (fun _ hk => hk.2) (.int .i64 ((rd_T48 l2 x28_2).f0.f0))) (fun _ hk => hk.2) (.int .i64 ((rd_T48 l2 x28_2).f0.f1))) (fun _ hk => hk.2) (.slice A255_2 ((rd_T48 l2 x28_2).f0.f2).length c255_2)) (fun _ hk => hk.2) (.int .i64 ((rd_T48 l2 x28_2).f1))) (fun _ hk => hk.2) (.int .i64 ((rd_T48 l2 x28_2).f2))) (fun _ h_ => h_.1))))) bz) (aC (blk_below (g := gb246) (o := .cells #[.int .i64 x247000_2, .int .i64 x247001_2, .slice none 0 0] 24 (0, 0)) (by (with_reducible repeat (first | refine blk_drewN ?_ _ | refine blk_drew ?_ | refine blk_alloc ?_ _)); refine blk_far ?_ NB246_256.out _; (with_reducible repeat (first | refine blk_drewN ?_ _ | refine blk_drew ?_ | refine blk_alloc ?_ _)); refine blk_far ?_ NB246_256.out _; (with_reducible repeat (first | refine blk_drewN ?_ _ | refine blk_drew ?_ | refine blk_alloc ?_ _)); refine blk_far ?_ NB246_256.out _; (with_reducible repeat (first | refine blk_drewN ?_ _ | refine blk_drew ?_ | refine blk_alloc ?_ _)); refine blk_far ?_ NB246_256.out _; (with_reducible repeat (first | refine blk_drewN ?_ _ | refine blk_drew ?_ | refine blk_alloc ?_ _)); refine blk_far ?_ NB246_256.out _; (with_reducible repeat (first | refine blk_drewN ?_ _ | refine blk_drew ?_ | refine blk_alloc ?_ _)); exact BK246.out) hb) (aC (blk_below (g := gb253) (o := .cells #[.int .i64 x254000_2, .int .i64 x254001_2, .slice Ao32 x254002_2.length co32] 24 (0, 0)) (by (with_reducible repeat (first | refine blk_drewN ?_ _ | refine blk_drew ?_ | refine blk_alloc ?_ _)); refine blk_far ?_ NB253_256.out _; (with_reducible repeat (first | refine blk_drewN ?_ _ | refine blk_drew ?_ | refine blk_alloc ?_ _)); refine blk_far ?_ NB253_256.out _; (with_reducible repeat (first | refine blk_drewN ?_ _ | refine blk_drew ?_ | refine blk_alloc ?_ _)); refine blk_far ?_ NB253_256.out _; (with_reducible repeat (first | refine blk_drewN ?_ _ | refine blk_drew ?_ | refine blk_alloc ?_ _)); refine blk_far ?_ NB253_256.out _; (with_reducible repeat (first | refine blk_drewN ?_ _ | refine blk_drew ?_ | refine blk_alloc ?_ _)); refine blk_far ?_ NB253_256.out _; (with_reducible repeat (first | refine blk_drewN ?_ _ | refine blk_drew ?_ | refine blk_alloc ?_ _)); exact BK253.out) hb) (aC (blk_below (g := gb256) (o := .cells #[.int .i64 ((rd_T48 l2 x28_2).f0.f0), .int .i64 ((rd_T48 l2 x28_2).f0.f1), .slice A255_2 ((rd_T48 l2 x28_2).f0.f2).length c255_2, .int .i64 ((rd_T48 l2 x28_2).f1), .int .i64 ((rd_T48 l2 x28_2).f2)] 48 (0, 0)) (by (with_reducible repeat (first | refine blk_drewN ?_ _ | refine blk_drew ?_ | refine blk_alloc ?_ _)); refine blk_put (cs := #[.int .i64 ((rd_T48 l2 x28_2).f0.f0), .int .i64 ((rd_T48 l2 x28_2).f0.f1), .slice A255_2 ((rd_T48 l2 x28_2).f0.f2).length c255_2, .int .i64 ((rd_T48 l2 x28_2).f1), .int .i64 0]) ?_ 4 _ rfl; (with_reducible repeat (first | refine blk_drewN ?_ _ | refine blk_drew ?_ | refine blk_alloc ?_ _)); refine blk_put (cs := #[.int .i64 ((rd_T48 l2 x28_2).f0.f0), .int .i64 ((rd_T48 l2 x28_2).f0.f1), .slice A255_2 ((rd_T48 l2 x28_2).f0.f2).length c255_2, .int .i64 0, .int .i64 0]) ?_ 3 _ rfl; (with_reducible repeat (first | refine blk_drewN ?_ _ | refine blk_drew ?_ | refine blk_alloc ?_ _)); refine blk_put (cs := #[.int .i64 ((rd_T48 l2 x28_2).f0.f0), .int .i64 ((rd_T48 l2 x28_2).f0.f1), .slice none 0 0, .int .i64 0, .int .i64 0]) ?_ 2 _ rfl; (with_reducible repeat (first | refine blk_drewN ?_ _ | refine blk_drew ?_ | refine blk_alloc ?_ _)); refine blk_put (cs := #[.int .i64 ((rd_T48 l2 x28_2).f0.f0), .int .i64 0, .slice none 0 0, .int .i64 0, .int .i64 0]) ?_ 1 _ rfl; (with_reducible repeat (first | refine blk_drewN ?_ _ | refine blk_drew ?_ | refine blk_alloc ?_ _)); refine blk_put (cs := #[.int .i64 0, .int .i64 0, .slice none 0 0, .int .i64 0, .int .i64 0]) ?_ 0 _ rfl; (with_reducible repeat (first | refine blk_drewN ?_ _ | refine blk_drew ?_ | refine blk_alloc ?_ _)); exact BK256.out) hb) (aE (bs hb)))))); clear HO_254002 BK246 BK253 BK256 HB; obtain ⟨HO_254002, HO263, BK246, BK253, BK256, HB⟩ := n_; (try clear hb); (try clear ho0); obtain ⟨hcz34_0, hcz34_1, hcz34_2, hfz34_0, hfz34_1, hfz34_2⟩ := cz3f BK253.out; obtain ⟨Ao35, co35, eo35⟩ := Kd.R_slice HO263.out; subst eo35))
           go_roundg k2
           case measure => have := HJ4.out; have := HK2.out; omega
           case rel => exact ⟨(wrap64 (x28_2 + 1)), (x247000_2), (x247001_2), (t259), (t260), (t261), (.slice Ao35 t261.length co35), rq, H', ⟨by have := HJ4.out; have := HK2.out; omega⟩, ⟨rU (Kd.R_mono (Kd.R_far (p := ⟨gb253, 2, none⟩) (Kd.R_far (p := ⟨gb253, 1, none⟩) (Kd.R_far (p := ⟨gb253, 0, none⟩) (Kd.R_types HO263.out BK253.out (by decide)) (fun _ hk => hk.2) (.int .i64 t259)) (fun _ hk => hk.2) (.int .i64 t260)) (fun _ hk => hk.2) (.slice Ao35 t261.length co35)) (fun _ hk => trivial))⟩, ⟨by (with_reducible repeat (first | refine blk_drewN ?_ _ | refine blk_drew ?_ | refine blk_alloc ?_ _)); refine blk_far ?_ NB246_253.out _; (with_reducible repeat (first | refine blk_drewN ?_ _ | refine blk_drew ?_ | refine blk_alloc ?_ _)); refine blk_far ?_ NB246_253.out _; (with_reducible repeat (first | refine blk_drewN ?_ _ | refine blk_drew ?_ | refine blk_alloc ?_ _)); refine blk_far ?_ NB246_253.out _; (with_reducible repeat (first | refine blk_drewN ?_ _ | refine blk_drew ?_ | refine blk_alloc ?_ _)); exact BK246.out⟩, ⟨by (with_reducible repeat (first | refine blk_drewN ?_ _ | refine blk_drew ?_ | refine blk_alloc ?_ _)); refine blk_put (cs := #[.int .i64 t259, .int .i64 t260, .slice Ao32 x254002_2.length co32]) ?_ 2 _ rfl; (with_reducible repeat (first | refine blk_drewN ?_ _ | refine blk_drew ?_ | refine blk_alloc ?_ _)); refine blk_put (cs := #[.int .i64 t259, .int .i64 x254001_2, .slice Ao32 x254002_2.length co32]) ?_ 1 _ rfl; (with_reducible repeat (first | refine blk_drewN ?_ _ | refine blk_drew ?_ | refine blk_alloc ?_ _)); refine blk_put (cs := #[.int .i64 x254000_2, .int .i64 x254001_2, .slice Ao32 x254002_2.length co32]) ?_ 0 _ rfl; (with_reducible repeat (first | refine blk_drewN ?_ _ | refine blk_drew ?_ | refine blk_alloc ?_ _)); exact BK253.out⟩, ⟨bl⟩⟩
          ·replace c24 := Bool.eq_false_iff.mpr c24
           subst c24
           have H1 : (some (0, 0, ([] : List Int), 2)) = some (r1, r2, r3, r4) := by rw [if_neg (show ¬ (false = true) by decide)] at H; exact H
           clear H
           have H := H1
           clear H1
           simp only [Option.some.injEq, Prod.mk.injEq] at H
           obtain ⟨rfl, rfl, rfl, rfl⟩ := H
           have p255 : 0 ≤ (x28_2 : Int) := dt
           have q255 : x28_2 < (l2.length : Int) := dt
           obtain ⟨ad255, A255_2, c255_2, e255, hx255_0, hx255_1, hx255_2, hx255_3, hx255_4, hl255_2, hi255_2⟩ := at_T48 HR2.out x28_2 p255 q255
           cases e255
           replace hx255_0 := hcB HB.out hx255_0
           replace hx255_1 := hcB HB.out hx255_1
           replace hx255_2 := hcB HB.out hx255_2
           replace hx255_3 := hcB HB.out hx255_3
           replace hx255_4 := hcB HB.out hx255_4
           have HR255_2 := Aside0.mk hi255_2
           have HC255_2 := Aside0.mk hl255_2
           clear hi255_2 hl255_2
           replace p255 := eq_true p255
           replace q255 := eq_true q255
           go_wp2_with (first | ((with_reducible refine gd 11 rfl ?_); refine bx 11 #[.int .i64 0, .int .i64 0, .slice none 0 0, .int .i64 0, .int .i64 0] 48 rfl rfl ?_; intro gb256 hg w36 hbox hb; have n_ := aC (Kd.R_below (rU HO_254002.out) hb) (aC (blk_below (bU BK246.out) hb) (aC (blk_below (bU BK253.out) hb) (aC (bs hb) (aC hbox (aC (gz hg) (aC (gz hg) (aC (gn hg (bU BK246.out)) (aC (gm hg (bU BK246.out)) (aC (gn hg (bU BK253.out)) (aE (gm hg (bU BK253.out)))))))))))); clear HO_254002 BK246 BK253 HB; obtain ⟨HO_254002, BK246, BK253, HB, BK256, GW256, GE256, NB246_256, NB256_246, NB253_256, NB256_253⟩ := n_; clear hb hbox hg; have hnb37 := NB256_246.out; have hnc37 := NB246_256.out; have hnb38 := NB256_253.out; have hnc38 := NB253_256.out; obtain ⟨hcz39_0, hcz39_1, hcz39_2, hcz39_3, hcz39_4, hfz39_0, hfz39_1, hfz39_2, hfz39_3, hfz39_4⟩ := cz5f BK256.out) | ((with_reducible refine gf 56 rfl ?_); refine gL (some 34) rfl rfl Try.func56 rfl #[.int .i64 ((rd_T48 l2 x28_2).f1)] rfl ?_; (with_reducible refine (shape_near.calls ((rd_T48 l2 x28_2).f1) true _ A21.out).mono ?_); rintro e w' ⟨rfl, ⟨nd, rfl⟩⟩; refine ⟨_, rfl, ?_⟩) | (go_at_call 56; (with_reducible refine (shape_near.calls ((rd_T48 l2 x28_2).f2) false _ A23.out).mono ?_); rintro e w' ⟨rfl, ⟨nd, rfl⟩⟩; have hnb40 := NB246_253.out; have hnc40 := NB253_246.out; obtain ⟨hcz41_0, hcz41_1, hcz41_2, hfz41_0, hfz41_1, hfz41_2⟩ := cz3f BK246.out))
           refine bodyPost_ret (results_ct rfl _ _ gb246 24 #[.int .i64 0, .int .i64 0, .slice none 0 0] (0, 0) _ rfl (by (with_reducible repeat (first | refine blk_drewN ?_ _ | refine blk_drew ?_ | refine blk_alloc ?_ _)); refine blk_put (cs := #[.int .i64 0, .int .i64 0, .slice none 0 0]) ?_ 2 _ rfl; (with_reducible repeat (first | refine blk_drewN ?_ _ | refine blk_drew ?_ | refine blk_alloc ?_ _)); refine blk_put (cs := #[.int .i64 0, .int .i64 x247001_2, .slice none 0 0]) ?_ 1 _ rfl; (with_reducible repeat (first | refine blk_drewN ?_ _ | refine blk_drew ?_ | refine blk_alloc ?_ _)); refine blk_put (cs := #[.int .i64 x247000_2, .int .i64 x247001_2, .slice none 0 0]) ?_ 0 _ rfl; (with_reducible repeat (first | refine blk_drewN ?_ _ | refine blk_drew ?_ | refine blk_alloc ?_ _)); refine blk_far ?_ NB246_256.out _; (with_reducible repeat (first | refine blk_drewN ?_ _ | refine blk_drew ?_ | refine blk_alloc ?_ _)); refine blk_far ?_ NB246_256.out _; (with_reducible repeat (first | refine blk_drewN ?_ _ | refine blk_drew ?_ | refine blk_alloc ?_ _)); refine blk_far ?_ NB246_256.out _; (with_reducible repeat (first | refine blk_drewN ?_ _ | refine blk_drew ?_ | refine blk_alloc ?_ _)); refine blk_far ?_ NB246_256.out _; (with_reducible repeat (first | refine blk_drewN ?_ _ | refine blk_drew ?_ | refine blk_alloc ?_ _)); refine blk_far ?_ NB246_256.out _; (with_reducible repeat (first | refine blk_drewN ?_ _ | refine blk_drew ?_ | refine blk_alloc ?_ _)); exact BK246.out) Try.underlying24 rfl (by kernel_rfl)) rfl ?_
           exact ⟨_, re, by first | exact Kd.R_nil _ _ _ _ _ | exact Kd.N_nil _ _ _ _ _ | exact Kd.V_nil _ _ _ _ _ | exact Kd.Q_nil _ _ _ _ _ | exact Kd.S_nil _ _ _ _ _, bl⟩
         ·replace c22 := Bool.eq_false_iff.mpr c22
          subst c22
          have H1 : (some (0, 0, ([] : List Int), 2)) = some (r1, r2, r3, r4) := by rw [if_neg (show ¬ (false = true) by decide)] at H; exact H
          clear H
          have H := H1
          clear H1
          simp only [Option.some.injEq, Prod.mk.injEq] at H
          obtain ⟨rfl, rfl, rfl, rfl⟩ := H
          have p255 : 0 ≤ (x28_2 : Int) := dt
          have q255 : x28_2 < (l2.length : Int) := dt
          obtain ⟨ad255, A255_2, c255_2, e255, hx255_0, hx255_1, hx255_2, hx255_3, hx255_4, hl255_2, hi255_2⟩ := at_T48 HR2.out x28_2 p255 q255
          cases e255
          replace hx255_0 := hcB HB.out hx255_0
          replace hx255_1 := hcB HB.out hx255_1
          replace hx255_2 := hcB HB.out hx255_2
          replace hx255_3 := hcB HB.out hx255_3
          replace hx255_4 := hcB HB.out hx255_4
          have HR255_2 := Aside0.mk hi255_2
          have HC255_2 := Aside0.mk hl255_2
          clear hi255_2 hl255_2
          replace p255 := eq_true p255
          replace q255 := eq_true q255
          go_wp2_with (first | ((with_reducible refine gd 11 rfl ?_); refine bx 11 #[.int .i64 0, .int .i64 0, .slice none 0 0, .int .i64 0, .int .i64 0] 48 rfl rfl ?_; intro gb256 hg w42 hbox hb; have n_ := aC (Kd.R_below (rU HO_254002.out) hb) (aC (blk_below (bU BK246.out) hb) (aC (blk_below (bU BK253.out) hb) (aC (bs hb) (aC hbox (aC (gz hg) (aC (gz hg) (aC (gn hg (bU BK246.out)) (aC (gm hg (bU BK246.out)) (aC (gn hg (bU BK253.out)) (aE (gm hg (bU BK253.out)))))))))))); clear HO_254002 BK246 BK253 HB; obtain ⟨HO_254002, BK246, BK253, HB, BK256, GW256, GE256, NB246_256, NB256_246, NB253_256, NB256_253⟩ := n_; clear hb hbox hg; have hnb43 := NB256_246.out; have hnc43 := NB246_256.out; have hnb44 := NB256_253.out; have hnc44 := NB253_256.out; obtain ⟨hcz45_0, hcz45_1, hcz45_2, hcz45_3, hcz45_4, hfz45_0, hfz45_1, hfz45_2, hfz45_3, hfz45_4⟩ := cz5f BK256.out) | ((with_reducible refine gf 56 rfl ?_); refine gL (some 34) rfl rfl Try.func56 rfl #[.int .i64 ((rd_T48 l2 x28_2).f1)] rfl ?_; (with_reducible refine (shape_near.calls ((rd_T48 l2 x28_2).f1) false _ A21.out).mono ?_); rintro e w' ⟨rfl, ⟨nd, rfl⟩⟩; refine ⟨_, rfl, ?_⟩; have hnb46 := NB246_253.out; have hnc46 := NB253_246.out; obtain ⟨hcz47_0, hcz47_1, hcz47_2, hfz47_0, hfz47_1, hfz47_2⟩ := cz3f BK246.out))
          refine bodyPost_ret (results_ct rfl _ _ gb246 24 #[.int .i64 0, .int .i64 0, .slice none 0 0] (0, 0) _ rfl (by (with_reducible repeat (first | refine blk_drewN ?_ _ | refine blk_drew ?_ | refine blk_alloc ?_ _)); refine blk_put (cs := #[.int .i64 0, .int .i64 0, .slice none 0 0]) ?_ 2 _ rfl; (with_reducible repeat (first | refine blk_drewN ?_ _ | refine blk_drew ?_ | refine blk_alloc ?_ _)); refine blk_put (cs := #[.int .i64 0, .int .i64 x247001_2, .slice none 0 0]) ?_ 1 _ rfl; (with_reducible repeat (first | refine blk_drewN ?_ _ | refine blk_drew ?_ | refine blk_alloc ?_ _)); refine blk_put (cs := #[.int .i64 x247000_2, .int .i64 x247001_2, .slice none 0 0]) ?_ 0 _ rfl; (with_reducible repeat (first | refine blk_drewN ?_ _ | refine blk_drew ?_ | refine blk_alloc ?_ _)); refine blk_far ?_ NB246_256.out _; (with_reducible repeat (first | refine blk_drewN ?_ _ | refine blk_drew ?_ | refine blk_alloc ?_ _)); refine blk_far ?_ NB246_256.out _; (with_reducible repeat (first | refine blk_drewN ?_ _ | refine blk_drew ?_ | refine blk_alloc ?_ _)); refine blk_far ?_ NB246_256.out _; (with_reducible repeat (first | refine blk_drewN ?_ _ | refine blk_drew ?_ | refine blk_alloc ?_ _)); refine blk_far ?_ NB246_256.out _; (with_reducible repeat (first | refine blk_drewN ?_ _ | refine blk_drew ?_ | refine blk_alloc ?_ _)); refine blk_far ?_ NB246_256.out _; (with_reducible repeat (first | refine blk_drewN ?_ _ | refine blk_drew ?_ | refine blk_alloc ?_ _)); exact BK246.out) Try.underlying24 rfl (by kernel_rfl)) rfl ?_
          exact ⟨_, re, by first | exact Kd.R_nil _ _ _ _ _ | exact Kd.N_nil _ _ _ _ _ | exact Kd.V_nil _ _ _ _ _ | exact Kd.Q_nil _ _ _ _ _ | exact Kd.S_nil _ _ _ _ _, bl⟩
        ·rw [if_neg c20] at H
         exact absurd H (by simp)
       ·rw [if_neg c19] at H
        exact absurd H (by simp)
      ·rw [if_neg c18] at H
       have c18b0 := decide_eq_false c18
       clear c18
       simp only [Option.some.injEq, Prod.mk.injEq] at H
       obtain ⟨rfl, rfl, rfl, rfl⟩ := H
       have hnb48 := NB253_246.out
       have hnc48 := NB246_253.out
       obtain ⟨hcz49_0, hcz49_1, hcz49_2, hfz49_0, hfz49_1, hfz49_2⟩ := cz3f BK253.out
       obtain ⟨hcz50_0, hcz50_1, hcz50_2, hfz50_0, hfz50_1, hfz50_2⟩ := cz3f BK246.out
       obtain ⟨Ao51, co51, eo51⟩ := Kd.R_slice HO_254002.out
       subst eo51
       go_wp2
       refine bodyPost_ret (results_ct rfl _ _ gb246 24 #[.int .i64 x254000_2, .int .i64 x254001_2, .slice Ao51 x254002_2.length co51] (0, 0) _ rfl (by (with_reducible repeat (first | refine blk_drewN ?_ _ | refine blk_drew ?_ | refine blk_alloc ?_ _)); refine blk_put (cs := #[.int .i64 x254000_2, .int .i64 x254001_2, .slice none 0 0]) ?_ 2 _ rfl; (with_reducible repeat (first | refine blk_drewN ?_ _ | refine blk_drew ?_ | refine blk_alloc ?_ _)); refine blk_put (cs := #[.int .i64 x254000_2, .int .i64 x247001_2, .slice none 0 0]) ?_ 1 _ rfl; (with_reducible repeat (first | refine blk_drewN ?_ _ | refine blk_drew ?_ | refine blk_alloc ?_ _)); refine blk_put (cs := #[.int .i64 x247000_2, .int .i64 x247001_2, .slice none 0 0]) ?_ 0 _ rfl; (with_reducible repeat (first | refine blk_drewN ?_ _ | refine blk_drew ?_ | refine blk_alloc ?_ _)); exact BK246.out) Try.underlying24 rfl (by kernel_rfl)) rfl ?_
       exact ⟨_, re, rU (Kd.R_mono (Kd.R_far (p := ⟨gb246, 2, none⟩) (Kd.R_far (p := ⟨gb246, 1, none⟩) (Kd.R_far (p := ⟨gb246, 0, none⟩) (Kd.R_types HO_254002.out BK246.out (by decide)) (fun _ hk => hk.2) (.int .i64 x254000_2)) (fun _ hk => hk.2) (.int .i64 x254001_2)) (fun _ hk => hk.2) (.slice Ao51 x254002_2.length co51)) (fun _ hk => trivial)), bl⟩

/-! ### bitmap_Cut: function 91 -/
def bitmap_Cut.l0 : Nat → Int → Int → Int → Int → Int → Int → Int → Int → List Int → Int → Int → List Int → Option (Int × Int × List Int × Int)
 | 0, _, _, _, _, _, _, _, _, _, _, _, _ => none
 | k + 1, x1, x2, x3, x13, x42, x43, x266000, x266001, x266002, x276000, x276001, x276002 => if x43 < x42 then (if x3 = 0 then (none) else ((bitmap_at.f x266000 x266001 x266002 (wrap64 (x1 + (Int.tmod x43 x3))) (wrap64 (x2 + (wrap64 (Int.tdiv x43 x3))))).bind fun t276 => (if 0 ≤ x43 then (if x43 < (x276002.length : Int) then (bitmap_Cut.l0 k x1 x2 x3 x13 x42 (wrap64 (x43 + 1)) x266000 x266001 x266002 x276000 x276001 (x276002.set (x43 : Int).toNat t276)) else (none)) else (none)))) else (some (x276000, x276001, x276002, x13))
def bitmap_Cut.f (k : Nat) (a0_0 : Int) (a0_1 : Int) (l0_2 : List Int) (a1 : Int) (a2 : Int) (a3 : Int) (a4 : Int) : Option (Int × Int × List Int × Int) := (bitmap_Valid.f k a0_0 a0_1 l0_2).bind fun t267 => (if t267 = true then (if a3 < 0 then (some (0, 0, ([] : List Int), 2)) else (if a4 < 0 then (some (0, 0, ([] : List Int), 2)) else ((bitmap_isShift.f a1 a2).bind fun t268 => (if t268 = true then ((bitmap_blank.f a3 a4).bind fun bt269 => (bitmap_Cut.l0 k a1 a2 a3 bt269.2.2.2 (bt269.2.2.1.length : Int) 0 a0_0 a0_1 l0_2 bt269.1 bt269.2.1 bt269.2.2.1)) else (some (0, 0, ([] : List Int), 2)))))) else (some (0, 0, ([] : List Int), 30)))
theorem bitmap_Cut.mono_l : ∀ k, (∀ y0 y1 y2 y3 y4 y5 y6 y7 y8 y9 y10 y11, LeO (bitmap_Cut.l0 k y0 y1 y2 y3 y4 y5 y6 y7 y8 y9 y10 y11) (bitmap_Cut.l0 (k + 1) y0 y1 y2 y3 y4 y5 y6 y7 y8 y9 y10 y11))
 | 0 => fun _ _ _ _ _ _ _ _ _ _ _ _ r h => by simp [bitmap_Cut.l0] at h
 | k + 1 => by
  have ih0 := bitmap_Cut.mono_l k
  ·intro y0 y1 y2 y3 y4 y5 y6 y7 y8 y9 y10 y11
   unfold bitmap_Cut.l0
   repeat' first
   | (with_reducible exact ih0 _ _ _ _ _ _ _ _ _ _ _ _)
   | (with_reducible exact bitmap_Valid.mono _ _ _ _)
   | (with_reducible first | exact LeO.refl _ | exact LeO.none _ | refine LeO.ite ?_ ?_ | refine LeO.bind ?_ (fun _ => ?_))
   | exact ih0 _ _ _ _ _ _ _ _ _ _ _ _
   | exact bitmap_Valid.mono _ _ _ _
   | exact LeO.none _ | refine LeO.ite ?_ ?_ | refine LeO.bind ?_ (fun _ => ?_)
theorem bitmap_Cut.mono : ∀ a0 a1 a2 a3 a4 a5 a6 k, LeO (bitmap_Cut.f k a0 a1 a2 a3 a4 a5 a6) (bitmap_Cut.f (k + 1) a0 a1 a2 a3 a4 a5 a6) := by
 intro a0 a1 a2 a3 a4 a5 a6 k
 have ih0 := bitmap_Cut.mono_l k
 unfold bitmap_Cut.f
 repeat' first
   | (with_reducible exact ih0 _ _ _ _ _ _ _ _ _ _ _ _)
   | (with_reducible exact bitmap_Valid.mono _ _ _ _)
   | (with_reducible first | exact LeO.refl _ | exact LeO.none _ | refine LeO.ite ?_ ?_ | refine LeO.bind ?_ (fun _ => ?_))
   | exact ih0 _ _ _ _ _ _ _ _ _ _ _ _
   | exact bitmap_Valid.mono _ _ _ _
   | exact LeO.none _ | refine LeO.ite ?_ ?_ | refine LeO.bind ?_ (fun _ => ?_)
def bitmap_Cut.T9 : Bool × List (List Nat × List Nat) := (true, [([], []), ([0], [0]), ([], []), ([], []), ([], []), ([], []), ([], []), ([5, 6], [5, 6]), ([4, 7], [4, 7]), ([], []), ([], []), ([], []), ([10, 11], [10, 11]), ([9, 12], [9, 12]), ([3, 8, 13], [3, 8, 13]), ([1, 2, 0, 1, 2, 3, 4, 5, 6, 7, 8, 9, 10, 11, 12, 13, 14], [1, 2]), ([15, 14, 14, 0, 1, 2, 3, 4, 5, 6, 7, 8, 9, 10, 11, 12, 13, 14], [14, 15])])
def bitmap_Cut.B9 : List Nat := [0, 1, 0, 0, 0, 0, 0, 96, 240, 0, 0, 0, 3072, 7680, 16376, 32767, 65535]
theorem bitmap_Cut.tab9 : rtab .any (opsOf Try.f91 9) = bitmap_Cut.T9 := by kernel_rfl
theorem bitmap_Cut.bits9 : waitsOk bitmap_Cut.T9.2 bitmap_Cut.B9 = true := by kernel_rfl
set_option maxHeartbeats 8000000 in
set_option maxRecDepth 100000 in
theorem bitmap_Cut.calls (k : Nat) (a0_0 : Int) (a0_1 : Int) (A0_2 : Option Addr) (c0_2 : Nat) (l0_2 : List Int) (a1 : Int) (a2 : Int) (a3 : Int) (a4 : Int) (r1 : Int) (r2 : Int) (r3 : List Int) (r4 : Int) (w : World) (hr0_2 : Kd.C (Kd.int .u8) w A0_2 l0_2.length l0_2) (hc0_2 : l0_2.length ≤ c0_2) (h : bitmap_Cut.f k a0_0 a0_1 l0_2 a1 a2 a3 a4 = some (r1, r2, r3, r4)) :
  Calls Try.prog 91 #[.agg #[.int .i64 a0_0, .int .i64 a0_1, .slice A0_2 l0_2.length c0_2], .int .i64 a1, .int .i64 a2, .int .i64 a3, .int .i64 a4] w fun e w' => ∃ v2_ : Value, e = .returned (.tuple #[.agg #[.int .i64 r1, .int .i64 r2, v2_], .int .i64 r4]) ∧ Kd.R (Kd.int .u8) 5 w' w.heap.size (fun _ => True) v2_ r3 ∧ Below w.heap.size w w' := by
 have hu24 := Try.underlying24
 have HR0_2 := Aside0.mk hr0_2
 have HC0_2 := Aside0.mk hc0_2
 clear hr0_2 hc0_2
 have HB := Aside0.mk (Below.refl w.heap.size w)
 have H : ((bitmap_Valid.f k a0_0 a0_1 l0_2).bind fun t267 => (if t267 = true then (if a3 < 0 then (some (0, 0, ([] : List Int), 2)) else (if a4 < 0 then (some (0, 0, ([] : List Int), 2)) else ((bitmap_isShift.f a1 a2).bind fun t268 => (if t268 = true then ((bitmap_blank.f a3 a4).bind fun bt269 => (bitmap_Cut.l0 k a1 a2 a3 bt269.2.2.2 (bt269.2.2.1.length : Int) 0 a0_0 a0_1 l0_2 bt269.1 bt269.2.1 bt269.2.2.1)) else (some (0, 0, ([] : List Int), 2)))))) else (some (0, 0, ([] : List Int), 30)))) = some (r1, r2, r3, r4) := h
 clear h
 replace H := Option.bind_eq_some_iff.mp H
 obtain ⟨t267, A60, H⟩ := H
 replace H : (if t267 = true then (if a3 < 0 then (some (0, 0, ([] : List Int), 2)) else (if a4 < 0 then (some (0, 0, ([] : List Int), 2)) else ((bitmap_isShift.f a1 a2).bind fun t268 => (if t268 = true then ((bitmap_blank.f a3 a4).bind fun bt269 => (bitmap_Cut.l0 k a1 a2 a3 bt269.2.2.2 (bt269.2.2.1.length : Int) 0 a0_0 a0_1 l0_2 bt269.1 bt269.2.1 bt269.2.2.1)) else (some (0, 0, ([] : List Int), 2)))))) else (some (0, 0, ([] : List Int), 30))) = some (r1, r2, r3, r4) := H
 have A6 := Aside0.mk A60
 clear A60
 by_cases c7 : t267 = true
 ·subst c7
  have H1 : (if a3 < 0 then (some (0, 0, ([] : List Int), 2)) else (if a4 < 0 then (some (0, 0, ([] : List Int), 2)) else ((bitmap_isShift.f a1 a2).bind fun t268 => (if t268 = true then ((bitmap_blank.f a3 a4).bind fun bt269 => (bitmap_Cut.l0 k a1 a2 a3 bt269.2.2.2 (bt269.2.2.1.length : Int) 0 a0_0 a0_1 l0_2 bt269.1 bt269.2.1 bt269.2.2.1)) else (some (0, 0, ([] : List Int), 2)))))) = some (r1, r2, r3, r4) := by rw [if_pos rfl] at H; exact H
  clear H
  have H := H1
  clear H1
  by_cases c8 : a3 < 0
  ·rw [if_pos c8] at H
   have c8b0 := decide_eq_true c8
   clear c8
   simp only [Option.some.injEq, Prod.mk.injEq] at H
   obtain ⟨rfl, rfl, rfl, rfl⟩ := H
   go_enter Try.func91, Try.ntmps91
   go_wp2_with (first | ((with_reducible refine gd 5 rfl ?_); refine bx 5 #[.int .i64 a0_0, .int .i64 a0_1, .slice A0_2 l0_2.length c0_2] 24 rfl rfl ?_; intro gb265 hg w9 hbox hb; have n_ := aC (bs hb) (aC hbox (aC (gz hg) (aE (gz hg)))); clear HB; obtain ⟨HB, BK265, GW265, GE265⟩ := n_; clear hb hbox hg) | ((with_reducible refine gd 10 rfl ?_); refine bx 10 #[.int .i64 0, .int .i64 0, .slice none 0 0] 24 rfl rfl ?_; intro gb266 hg w10 hbox hb; have n_ := aC (blk_below (bU BK265.out) hb) (aC (bs hb) (aC hbox (aC (gz hg) (aC (gz hg) (aC (gn hg (bU BK265.out)) (aE (gm hg (bU BK265.out)))))))); clear BK265 HB; obtain ⟨BK265, HB, BK266, GW266, GE266, NB265_266, NB266_265⟩ := n_; clear hb hbox hg; have hnb11 := NB265_266.out; have hnc11 := NB266_265.out; obtain ⟨hcz12_0, hcz12_1, hcz12_2, hfz12_0, hfz12_1, hfz12_2⟩ := cz3f BK265.out) | ((with_reducible refine gf 38 rfl ?_); refine gL (some 17) rfl rfl Try.func38 rfl #[.agg #[.int .i64 a0_0, .int .i64 a0_1, .slice A0_2 l0_2.length c0_2]] rfl ?_; (with_reducible refine (bitmap_Valid.calls k a0_0 a0_1 _ _ l0_2 true _ ?side1 ?side2 A6.out).mono ?_); (case side1 => exact cU (Kd.C_below HR0_2.out HB.out)); (case side2 => exact HC0_2.out); rintro e w13 ⟨rfl, hb⟩; refine ⟨_, rfl, ?_⟩; have n_ := aC (blk_below (bU BK265.out) hb) (aC (blk_below (bU BK266.out) hb) (aE (bs hb))); clear BK265 BK266 HB; obtain ⟨BK265, BK266, HB⟩ := n_; (try clear hb); obtain ⟨hcz14_0, hcz14_1, hcz14_2, hfz14_0, hfz14_1, hfz14_2⟩ := cz3f BK266.out))
   refine bodyPost_ret (results_ct rfl _ _ gb266 24 #[.int .i64 0, .int .i64 0, .slice none 0 0] (0, 0) _ rfl (by (with_reducible repeat (first | refine blk_drewN ?_ _ | refine blk_drew ?_ | refine blk_alloc ?_ _)); refine blk_put (cs := #[.int .i64 0, .int .i64 0, .slice none 0 0]) ?_ 2 _ rfl; (with_reducible repeat (first | refine blk_drewN ?_ _ | refine blk_drew ?_ | refine blk_alloc ?_ _)); refine blk_put (cs := #[.int .i64 0, .int .i64 0, .slice none 0 0]) ?_ 1 _ rfl; (with_reducible repeat (first | refine blk_drewN ?_ _ | refine blk_drew ?_ | refine blk_alloc ?_ _)); refine blk_put (cs := #[.int .i64 0, .int .i64 0, .slice none 0 0]) ?_ 0 _ rfl; (with_reducible repeat (first | refine blk_drewN ?_ _ | refine blk_drew ?_ | refine blk_alloc ?_ _)); exact BK266.out) Try.underlying24 rfl (by kernel_rfl)) rfl ?_
   exact ⟨_, re, by first | exact Kd.R_nil _ _ _ _ _ | exact Kd.N_nil _ _ _ _ _ | exact Kd.V_nil _ _ _ _ _ | exact Kd.Q_nil _ _ _ _ _ | exact Kd.S_nil _ _ _ _ _, bl⟩
  ·rw [if_neg c8] at H
   have c8b0 := decide_eq_false c8
   clear c8
   by_cases c15 : a4 < 0
   ·rw [if_pos c15] at H
    have c15b0 := decide_eq_true c15
    clear c15
    simp only [Option.some.injEq, Prod.mk.injEq] at H
    obtain ⟨rfl, rfl, rfl, rfl⟩ := H
    go_enter Try.func91, Try.ntmps91
    go_wp2_with (first | ((with_reducible refine gd 5 rfl ?_); refine bx 5 #[.int .i64 a0_0, .int .i64 a0_1, .slice A0_2 l0_2.length c0_2] 24 rfl rfl ?_; intro gb265 hg w16 hbox hb; have n_ := aC (bs hb) (aC hbox (aC (gz hg) (aE (gz hg)))); clear HB; obtain ⟨HB, BK265, GW265, GE265⟩ := n_; clear hb hbox hg) | ((with_reducible refine gd 10 rfl ?_); refine bx 10 #[.int .i64 0, .int .i64 0, .slice none 0 0] 24 rfl rfl ?_; intro gb266 hg w17 hbox hb; have n_ := aC (blk_below (bU BK265.out) hb) (aC (bs hb) (aC hbox (aC (gz hg) (aC (gz hg) (aC (gn hg (bU BK265.out)) (aE (gm hg (bU BK265.out)))))))); clear BK265 HB; obtain ⟨BK265, HB, BK266, GW266, GE266, NB265_266, NB266_265⟩ := n_; clear hb hbox hg; have hnb18 := NB265_266.out; have hnc18 := NB266_265.out; obtain ⟨hcz19_0, hcz19_1, hcz19_2, hfz19_0, hfz19_1, hfz19_2⟩ := cz3f BK265.out) | ((with_reducible refine gf 38 rfl ?_); refine gL (some 17) rfl rfl Try.func38 rfl #[.agg #[.int .i64 a0_0, .int .i64 a0_1, .slice A0_2 l0_2.length c0_2]] rfl ?_; (with_reducible refine (bitmap_Valid.calls k a0_0 a0_1 _ _ l0_2 true _ ?side1 ?side2 A6.out).mono ?_); (case side1 => exact cU (Kd.C_below HR0_2.out HB.out)); (case side2 => exact HC0_2.out); rintro e w20 ⟨rfl, hb⟩; refine ⟨_, rfl, ?_⟩; have n_ := aC (blk_below (bU BK265.out) hb) (aC (blk_below (bU BK266.out) hb) (aE (bs hb))); clear BK265 BK266 HB; obtain ⟨BK265, BK266, HB⟩ := n_; (try clear hb); obtain ⟨hcz21_0, hcz21_1, hcz21_2, hfz21_0, hfz21_1, hfz21_2⟩ := cz3f BK266.out))
    refine bodyPost_ret (results_ct rfl _ _ gb266 24 #[.int .i64 0, .int .i64 0, .slice none 0 0] (0, 0) _ rfl (by (with_reducible repeat (first | refine blk_drewN ?_ _ | refine blk_drew ?_ | refine blk_alloc ?_ _)); refine blk_put (cs := #[.int .i64 0, .int .i64 0, .slice none 0 0]) ?_ 2 _ rfl; (with_reducible repeat (first | refine blk_drewN ?_ _ | refine blk_drew ?_ | refine blk_alloc ?_ _)); refine blk_put (cs := #[.int .i64 0, .int .i64 0, .slice none 0 0]) ?_ 1 _ rfl; (with_reducible repeat (first | refine blk_drewN ?_ _ | refine blk_drew ?_ | refine blk_alloc ?_ _)); refine blk_put (cs := #[.int .i64 0, .int .i64 0, .slice none 0 0]) ?_ 0 _ rfl; (with_reducible repeat (first | refine blk_drewN ?_ _ | refine blk_drew ?_ | refine blk_alloc ?_ _)); exact BK266.out) Try.underlying24 rfl (by kernel_rfl)) rfl ?_
    exact ⟨_, re, by first | exact Kd.R_nil _ _ _ _ _ | exact Kd.N_nil _ _ _ _ _ | exact Kd.V_nil _ _ _ _ _ | exact Kd.Q_nil _ _ _ _ _ | exact Kd.S_nil _ _ _ _ _, bl⟩
   ·rw [if_neg c15] at H
    have c15b0 := decide_eq_false c15
    clear c15
    replace H := Option.bind_eq_some_iff.mp H
    obtain ⟨t268, A220, H⟩ := H
    replace H : (if t268 = true then ((bitmap_blank.f a3 a4).bind fun bt269 => (bitmap_Cut.l0 k a1 a2 a3 bt269.2.2.2 (bt269.2.2.1.length : Int) 0 a0_0 a0_1 l0_2 bt269.1 bt269.2.1 bt269.2.2.1)) else (some (0, 0, ([] : List Int), 2))) = some (r1, r2, r3, r4) := H
    have A22 := Aside0.mk A220
    clear A220
    by_cases c23 : t268 = true
    ·subst c23
     have H1 : ((bitmap_blank.f a3 a4).bind fun bt269 => (bitmap_Cut.l0 k a1 a2 a3 bt269.2.2.2 (bt269.2.2.1.length : Int) 0 a0_0 a0_1 l0_2 bt269.1 bt269.2.1 bt269.2.2.1)) = some (r1, r2, r3, r4) := by rw [if_pos rfl] at H; exact H
     clear H
     have H := H1
     clear H1
     replace H := Option.bind_eq_some_iff.mp H
     obtain ⟨⟨t269, t270, t271, t274⟩, A240, H⟩ := H
     replace H : (bitmap_Cut.l0 k a1 a2 a3 t274 (t271.length : Int) 0 a0_0 a0_1 l0_2 t269 t270 t271) = some (r1, r2, r3, r4) := H
     have A24 := Aside0.mk A240
     clear A240
     have H' := Aside0.mk H
     clear H
     go_enter Try.func91, Try.ntmps91
     go_wp2_with (first | ((with_reducible refine gd 5 rfl ?_); refine bx 5 #[.int .i64 a0_0, .int .i64 a0_1, .slice A0_2 l0_2.length c0_2] 24 rfl rfl ?_; intro gb265 hg w25 hbox hb; have n_ := aC (bs hb) (aC hbox (aC (gz hg) (aE (gz hg)))); clear HB; obtain ⟨HB, BK265, GW265, GE265⟩ := n_; clear hb hbox hg) | ((with_reducible refine gd 10 rfl ?_); refine bx 10 #[.int .i64 0, .int .i64 0, .slice none 0 0] 24 rfl rfl ?_; intro gb266 hg w26 hbox hb; have n_ := aC (blk_below (bU BK265.out) hb) (aC (bs hb) (aC hbox (aC (gz hg) (aC (gz hg) (aC (gn hg (bU BK265.out)) (aE (gm hg (bU BK265.out)))))))); clear BK265 HB; obtain ⟨BK265, HB, BK266, GW266, GE266, NB265_266, NB266_265⟩ := n_; clear hb hbox hg; have hnb27 := NB265_266.out; have hnc27 := NB266_265.out; obtain ⟨hcz28_0, hcz28_1, hcz28_2, hfz28_0, hfz28_1, hfz28_2⟩ := cz3f BK265.out) | ((with_reducible refine gf 38 rfl ?_); refine gL (some 17) rfl rfl Try.func38 rfl #[.agg #[.int .i64 a0_0, .int .i64 a0_1, .slice A0_2 l0_2.length c0_2]] rfl ?_; (with_reducible refine (bitmap_Valid.calls k a0_0 a0_1 _ _ l0_2 true _ ?side1 ?side2 A6.out).mono ?_); (case side1 => exact cU (Kd.C_below HR0_2.out HB.out)); (case side2 => exact HC0_2.out); rintro e w29 ⟨rfl, hb⟩; refine ⟨_, rfl, ?_⟩; have n_ := aC (blk_below (bU BK265.out) hb) (aC (blk_below (bU BK266.out) hb) (aE (bs hb))); clear BK265 BK266 HB; obtain ⟨BK265, BK266, HB⟩ := n_; (try clear hb)) | (go_at_call 86; (with_reducible refine (bitmap_isShift.calls a1 a2 true _ A22.out).mono ?_); rintro e w30 ⟨rfl, hb⟩; have n_ := aC (blk_below (bU BK265.out) hb) (aC (blk_below (bU BK266.out) hb) (aE (bs hb))); clear BK265 BK266 HB; obtain ⟨BK265, BK266, HB⟩ := n_; (try clear hb)) | ((with_reducible refine gf 83 rfl ?_); refine gL (some 37) rfl rfl Try.func83 rfl #[.int .i64 a3, .int .i64 a4] rfl ?_; (with_reducible refine (bitmap_blank.calls a3 a4 t269 t270 t271 t274 _ A24.out).mono ?_); rintro e w31 ⟨v272, rfl, ho0, hb⟩; refine ⟨_, rfl, ?_⟩; have n_ := aC (Kd.R_lower ho0 bz) (aC (blk_below (bU BK265.out) hb) (aC (blk_below (bU BK266.out) hb) (aE (bs hb)))); clear BK265 BK266 HB; obtain ⟨HO273, BK265, BK266, HB⟩ := n_; (try clear hb); (try clear ho0)) | ((with_reducible refine gd 12 rfl ?_); refine bx 12 #[.int .i64 0, .int .i64 0, .slice none 0 0] 24 rfl rfl ?_; intro gb275 hg w32 hbox hb; have n_ := aC (Kd.R_below (rU HO273.out) hb) (aC (blk_below (bU BK265.out) hb) (aC (blk_below (bU BK266.out) hb) (aC (bs hb) (aC hbox (aC (gz hg) (aC (gz hg) (aC (gn hg (bU BK265.out)) (aC (gm hg (bU BK265.out)) (aC (gn hg (bU BK266.out)) (aE (gm hg (bU BK266.out)))))))))))); clear HO273 BK265 BK266 HB; obtain ⟨HO273, BK265, BK266, HB, BK275, GW275, GE275, NB265_275, NB275_265, NB266_275, NB275_266⟩ := n_; clear hb hbox hg; have hnb33 := NB275_265.out; have hnc33 := NB265_275.out; have hnb34 := NB275_266.out; have hnc34 := NB266_275.out; obtain ⟨hcz35_0, hcz35_1, hcz35_2, hfz35_0, hfz35_1, hfz35_2⟩ := cz3f BK275.out; obtain ⟨Ao36, co36, eo36⟩ := Kd.R_slice HO273.out; subst eo36))
     go_loopg [43] k (fun kq v43 w' => ∃ (x43_1 : Int) (x276002_1 : List Int) (u276002 : Value), v43 = .int .i64 x43_1 ∧ Aside0 (bitmap_Cut.l0 kq a1 a2 a3 t274 (t271.length : Int) x43_1 a0_0 a0_1 l0_2 t269 t270 x276002_1 = some (r1, r2, r3, r4)) ∧ Aside0 (kq ≤ k) ∧ Aside0 (Kd.R (Kd.int .u8) 5 w' w.heap.size (fun _ => True) u276002 x276002_1) ∧ Aside0 (w'.heap[gb265]? = some (.cells #[.int .i64 a0_0, .int .i64 a0_1, (.slice A0_2 l0_2.length c0_2)] 24 (0, 0))) ∧ Aside0 (w'.heap[gb266]? = some (.cells #[.int .i64 0, .int .i64 0, (.slice none 0 0)] 24 (0, 0))) ∧ Aside0 (w'.heap[gb275]? = some (.cells #[.int .i64 t269, .int .i64 t270, u276002] 24 (0, 0))) ∧ Aside0 (Below w.heap.size w w'))
     case atStart => exact ⟨(0), (t271), (.slice Ao36 t271.length co36), rq, H', ⟨Nat.le_refl _⟩, ⟨rU (Kd.R_mono (Kd.R_far (p := ⟨gb275, 2, none⟩) (Kd.R_far (p := ⟨gb275, 1, none⟩) (Kd.R_far (p := ⟨gb275, 0, none⟩) (Kd.R_types HO273.out BK275.out (by decide)) (fun _ hk => hk.2) (.int .i64 t269)) (fun _ hk => hk.2) (.int .i64 t270)) (fun _ hk => hk.2) (.slice Ao36 t271.length co36)) (fun _ hk => trivial))⟩, ⟨by (with_reducible repeat (first | refine blk_drewN ?_ _ | refine blk_drew ?_ | refine blk_alloc ?_ _)); refine blk_far ?_ NB265_275.out _; (with_reducible repeat (first | refine blk_drewN ?_ _ | refine blk_drew ?_ | refine blk_alloc ?_ _)); refine blk_far ?_ NB265_275.out _; (with_reducible repeat (first | refine blk_drewN ?_ _ | refine blk_drew ?_ | refine blk_alloc ?_ _)); refine blk_far ?_ NB265_275.out _; (with_reducible repeat (first | refine blk_drewN ?_ _ | refine blk_drew ?_ | refine blk_alloc ?_ _)); exact BK265.out⟩, ⟨by (with_reducible repeat (first | refine blk_drewN ?_ _ | refine blk_drew ?_ | refine blk_alloc ?_ _)); refine blk_far ?_ NB266_275.out _; (with_reducible repeat (first | refine blk_drewN ?_ _ | refine blk_drew ?_ | refine blk_alloc ?_ _)); refine blk_far ?_ NB266_275.out _; (with_reducible repeat (first | refine blk_drewN ?_ _ | refine blk_drew ?_ | refine blk_alloc ?_ _)); refine blk_far ?_ NB266_275.out _; (with_reducible repeat (first | refine blk_drewN ?_ _ | refine blk_drew ?_ | refine blk_alloc ?_ _)); exact BK266.out⟩, ⟨by (with_reducible repeat (first | refine blk_drewN ?_ _ | refine blk_drew ?_ | refine blk_alloc ?_ _)); refine blk_put (cs := #[.int .i64 t269, .int .i64 t270, .slice none 0 0]) ?_ 2 _ rfl; (with_reducible repeat (first | refine blk_drewN ?_ _ | refine blk_drew ?_ | refine blk_alloc ?_ _)); refine blk_put (cs := #[.int .i64 t269, .int .i64 0, .slice none 0 0]) ?_ 1 _ rfl; (with_reducible repeat (first | refine blk_drewN ?_ _ | refine blk_drew ?_ | refine blk_alloc ?_ _)); refine blk_put (cs := #[.int .i64 0, .int .i64 0, .slice none 0 0]) ?_ 0 _ rfl; (with_reducible repeat (first | refine blk_drewN ?_ _ | refine blk_drew ?_ | refine blk_alloc ?_ _)); exact BK275.out⟩, ⟨bl⟩⟩
     case round =>
      clear H'
      obtain ⟨x43_1, x276002_1, u276002, rfl, HA, HK1, HO_276002, BK265, BK266, BK275, HB⟩ := hrel
      cases gk with
      | zero => exact absurd HA.out (by simp [bitmap_Cut.l0])
      | succ k1 =>
       have H := HA.out
       clear HA
       simp only [bitmap_Cut.l0] at H
       by_cases c37 : x43_1 < (t271.length : Int)
       ·rw [if_pos c37] at H
        have c37b0 := decide_eq_true c37
        clear c37
        by_cases c38 : a3 = 0
        ·rw [if_pos c38] at H
         exact absurd H (by simp)
        ·rw [if_neg c38] at H
         have c38b0 := beq_eq_false_iff_ne.mpr c38
         have c38b1 := bne_iff_ne.mpr c38
         replace H := Option.bind_eq_some_iff.mp H
         obtain ⟨t276, A390, H⟩ := H
         replace H : (if 0 ≤ x43_1 then (if x43_1 < (x276002_1.length : Int) then (bitmap_Cut.l0 k1 a1 a2 a3 t274 (t271.length : Int) (wrap64 (x43_1 + 1)) a0_0 a0_1 l0_2 t269 t270 (x276002_1.set (x43_1 : Int).toNat t276)) else (none)) else (none)) = some (r1, r2, r3, r4) := H
         have A39 := Aside0.mk A390
         clear A390
         by_cases c40 : 0 ≤ x43_1
         ·rw [if_pos c40] at H
          have c40b0 := decide_eq_true c40
          clear c40
          by_cases c41 : x43_1 < (x276002_1.length : Int)
          ·rw [if_pos c41] at H
           have c41b0 := decide_eq_true c41
           clear c41
           obtain ⟨y277, hy_⟩ : ∃ y_ : List Int, y_ = (x276002_1.set (x43_1 : Int).toNat t276) := ⟨_, rfl⟩
           replace H : (bitmap_Cut.l0 k1 a1 a2 a3 t274 (t271.length : Int) (wrap64 (x43_1 + 1)) a0_0 a0_1 l0_2 t269 t270 y277) = some (r1, r2, r3, r4) := rh
           have Ny277 := aE hy_
           clear hy_
           have H' := Aside0.mk H
           clear H
           try go_wp2
           have n_ := aC (Kd.R_drew HO_276002.out) (aC (blk_drew BK265.out) (aC (blk_drew BK266.out) (aC (blk_drew BK275.out) (aE (below_drew1 HB.out)))))
           clear HO_276002 BK265 BK266 BK275 HB
           obtain ⟨HO_276002, BK265, BK266, BK275, HB⟩ := n_
           refine st 17 (fun w' => w'.cell? ⟨gb275, 0, none⟩ = some (.int .i64 t269) ∧ w'.cell? ⟨gb275, 1, none⟩ = some (.int .i64 t270) ∧ w'.cell? ⟨gb275, 2, none⟩ = some (u276002) ∧ w'.cell? ⟨gb265, 0, none⟩ = some (.int .i64 a0_0) ∧ w'.cell? ⟨gb265, 1, none⟩ = some (.int .i64 a0_1) ∧ w'.cell? ⟨gb265, 2, none⟩ = some (.slice A0_2 l0_2.length c0_2)) [16] (bv 17 0) bitmap_Cut.tab9 bitmap_Cut.bits9 ⟨kc0 BK275.out, kc1 BK275.out, kc2 BK275.out, kc0 BK265.out, kc1 BK265.out, kc2 BK265.out⟩ (fun hHeld HT_ HW_ => ?_)
           generalize wr.drew = w43 at HO_276002 BK265 BK266 BK275 HB hHeld ⊢
           refine pu 0 46 (bv 17 1) HT_ rfl rfl ?_
           refine pu 2 48 (bv 17 5) HT_ rfl rfl ?_
           refine pu 4 50 (bv 17 21) HT_ rfl rfl ?_
           refine pu 5 51 (bv 17 53) HT_ rfl rfl ?_
           refine pu 6 52 (bv 17 117) HT_ rfl rfl ?_
           refine pu 7 53 (bv 17 245) HT_ rfl rfl ?_
           refine pu 8 54 (bv 17 501) HT_ rfl rfl ?_
           refine pu 9 55 (bv 17 1013) HT_ rfl rfl ?_
           refine pu 10 56 (bv 17 2037) HT_ rfl rfl ?_
           refine pu 11 57 (bv 17 4085) HT_ rfl rfl ?_
           refine pu 12 58 (bv 17 8181) HT_ rfl rfl ?_
           refine pu 13 59 (bv 17 16373) HT_ rfl rfl ?_
           refine tk 1 47 (bv 17 16375) HT_ HW_ hHeld rfl rfl (by rintro w' ⟨s0, s1, s2, s3, s4, s5⟩; exact yl) ?_
           refine tk 3 49 (bv 17 16383) HT_ HW_ hHeld rfl rfl (by rintro w' ⟨s0, s1, s2, s3, s4, s5⟩; exact yl) ?_
           refine one_ (i := 14) (N := some 60) (bv 17 32767) rfl rfl (one_of HT_.out (by kernel_rfl)) (by decide) (fun K hK => ?_)
           refine gK Try.func89 rfl #[.agg #[.int .i64 a0_0, .int .i64 a0_1, .slice A0_2 l0_2.length c0_2], .int .i64 (wrap64 (a1 + (Int.tmod x43_1 a3))), .int .i64 (wrap64 (a2 + (wrap64 (Int.tdiv x43_1 a3))))] rfl rfl ?_
           with_reducible refine (bitmap_at.calls a0_0 a0_1 _ _ l0_2 (wrap64 (a1 + (Int.tmod x43_1 a3))) (wrap64 (a2 + (wrap64 (Int.tdiv x43_1 a3)))) t276 _ ?side1 ?side2 A39.out).mono ?_
           (case side1 => exact cU (Kd.C_below HR0_2.out HB.out))
           (case side2 => exact HC0_2.out)
           rintro e w44 ⟨rfl, hb⟩
           refine ⟨_, rfl, ?_⟩
           have n_ := aC (Kd.R_below (rU HO_276002.out) hb) (aC (blk_below (bU BK265.out) hb) (aC (blk_below (bU BK266.out) hb) (aC (blk_below (bU BK275.out) hb) (aE (bs hb)))))
           clear HO_276002 BK265 BK266 BK275 HB
           obtain ⟨HO_276002, BK265, BK266, BK275, HB⟩ := n_
           (try clear hb)
           (try clear hb2)
           (try clear hk)
           (try clear hi)
           have p42 : 0 ≤ (x43_1 : Int) := dt
           have q42 : (x43_1 : Int) < ((x276002_1.length : Int) : Int) := dt
           obtain ⟨go42, co42, eo42, gb42, gl42, cl42, HG42⟩ := Kd.R_form HO_276002.out (by omega)
           (first | cases eo42 | (injection eo42 with ea_ en_ ec_; (first | subst ea_ | (injection ea_ with ea_; subst ea_)); subst ec_; clear en_))
           have GB42 := Aside0.mk gb42
           have GG42 := Aside0.mk HG42
           clear gb42 gl42 HG42
           obtain ⟨hx42_0, hf42_0⟩ := Kd.R_celln 0 HO_276002.out (x43_1 : Int) p42 q42
           replace p42 := eq_true p42
           replace q42 := eq_true q42
           have HP45 := Kd.R_putn HO_276002.out (x43_1 : Int) t276
           rw [← Ny277.out] at HP45
           have HQ45 := Aside0.mk HP45
           clear HP45
           refine hK.out _ _ ⟨kc0 BK275.out, kc1 BK275.out, kc2 BK275.out, kc0 BK265.out, kc1 BK265.out, kc2 BK265.out⟩ (fun hHeld => ?_)
           clear hK K
           refine nm (some 60) ?_
           refine pu 15 61 (bv 17 65535) HT_ rfl rfl ?_
           refine last_ (i := 16) (N := none) (bv 17 131071) rfl rfl (one_of HT_.out (by kernel_rfl)) (by decide) (fun K hK => ?_)
           refine skip_ (w1 := ?_) (by rfl) rfl ?_ ?_
           rotate_left
           ·go_simp
            rfl
           refine hK.out _ _ ?_
           clear hK K
           refine done_ (done_of HT_.out (by kernel_rfl)) ?_
           try go_wp2
           go_roundg k1
           case measure => have := HK1.out; omega
           case rel => exact ⟨(wrap64 (x43_1 + 1)), (y277), (.slice (some ⟨go42, 0, none⟩) x276002_1.length co42), rq, H', ⟨by have := HK1.out; omega⟩, ⟨by (with_reducible repeat (first | apply Kd.R_alloc | apply Kd.R_drewN | apply Kd.R_drew)); exact HQ45.out⟩, ⟨by (with_reducible repeat (first | refine blk_drewN ?_ _ | refine blk_drew ?_ | refine blk_alloc ?_ _)); refine blk_far ?_ (by have h_ := Kd.R_ne HO_276002.out BK265.out (by decide); intro e_; exact h_ (by rw [e_]; rfl)) _; (with_reducible repeat (first | refine blk_drewN ?_ _ | refine blk_drew ?_ | refine blk_alloc ?_ _)); exact BK265.out⟩, ⟨by (with_reducible repeat (first | refine blk_drewN ?_ _ | refine blk_drew ?_ | refine blk_alloc ?_ _)); refine blk_far ?_ (by have h_ := Kd.R_ne HO_276002.out BK266.out (by decide); intro e_; exact h_ (by rw [e_]; rfl)) _; (with_reducible repeat (first | refine blk_drewN ?_ _ | refine blk_drew ?_ | refine blk_alloc ?_ _)); exact BK266.out⟩, ⟨by (with_reducible repeat (first | refine blk_drewN ?_ _ | refine blk_drew ?_ | refine blk_alloc ?_ _)); refine blk_far ?_ (by have h_ := Kd.R_ne HO_276002.out BK275.out (by decide); intro e_; exact h_ (by rw [e_]; rfl)) _; (with_reducible repeat (first | refine blk_drewN ?_ _ | refine blk_drew ?_ | refine blk_alloc ?_ _)); exact BK275.out⟩, ⟨by repeat (first | (with_reducible first | exact HB.out | apply below_alloc | apply pw_below_drewN | apply below_drew1 | refine below_set ?_ GB42.out | refine below_set ?_ GE265.out | refine below_set ?_ GE266.out | refine below_set ?_ GE275.out) | exact HB.out)⟩⟩
          ·rw [if_neg c41] at H
           exact absurd H (by simp)
         ·rw [if_neg c40] at H
          exact absurd H (by simp)
       ·rw [if_neg c37] at H
        have c37b0 := decide_eq_false c37
        clear c37
        simp only [Option.some.injEq, Prod.mk.injEq] at H
        obtain ⟨rfl, rfl, rfl, rfl⟩ := H
        have hnb46 := NB275_265.out
        have hnc46 := NB265_275.out
        have hnb47 := NB275_266.out
        have hnc47 := NB266_275.out
        obtain ⟨hcz48_0, hcz48_1, hcz48_2, hfz48_0, hfz48_1, hfz48_2⟩ := cz3f BK275.out
        have hnb49 := NB266_265.out
        have hnc49 := NB265_266.out
        obtain ⟨hcz50_0, hcz50_1, hcz50_2, hfz50_0, hfz50_1, hfz50_2⟩ := cz3f BK266.out
        obtain ⟨Ao51, co51, eo51⟩ := Kd.R_slice HO_276002.out
        subst eo51
        go_wp2
        refine bodyPost_ret (results_ct rfl _ _ gb266 24 #[.int .i64 t269, .int .i64 t270, .slice Ao51 x276002_1.length co51] (0, 0) _ rfl (by (with_reducible repeat (first | refine blk_drewN ?_ _ | refine blk_drew ?_ | refine blk_alloc ?_ _)); refine blk_put (cs := #[.int .i64 t269, .int .i64 t270, .slice none 0 0]) ?_ 2 _ rfl; (with_reducible repeat (first | refine blk_drewN ?_ _ | refine blk_drew ?_ | refine blk_alloc ?_ _)); refine blk_put (cs := #[.int .i64 t269, .int .i64 0, .slice none 0 0]) ?_ 1 _ rfl; (with_reducible repeat (first | refine blk_drewN ?_ _ | refine blk_drew ?_ | refine blk_alloc ?_ _)); refine blk_put (cs := #[.int .i64 0, .int .i64 0, .slice none 0 0]) ?_ 0 _ rfl; (with_reducible repeat (first | refine blk_drewN ?_ _ | refine blk_drew ?_ | refine blk_alloc ?_ _)); exact BK266.out) Try.underlying24 rfl (by kernel_rfl)) rfl ?_
        exact ⟨_, re, rU (Kd.R_mono (Kd.R_far (p := ⟨gb266, 2, none⟩) (Kd.R_far (p := ⟨gb266, 1, none⟩) (Kd.R_far (p := ⟨gb266, 0, none⟩) (Kd.R_types HO_276002.out BK266.out (by decide)) (fun _ hk => hk.2) (.int .i64 t269)) (fun _ hk => hk.2) (.int .i64 t270)) (fun _ hk => hk.2) (.slice Ao51 x276002_1.length co51)) (fun _ hk => trivial)), bl⟩
    ·replace c23 := Bool.eq_false_iff.mpr c23
     subst c23
     have H1 : (some (0, 0, ([] : List Int), 2)) = some (r1, r2, r3, r4) := by rw [if_neg (show ¬ (false = true) by decide)] at H; exact H
     clear H
     have H := H1
     clear H1
     simp only [Option.some.injEq, Prod.mk.injEq] at H
     obtain ⟨rfl, rfl, rfl, rfl⟩ := H
     go_enter Try.func91, Try.ntmps91
     go_wp2_with (first | ((with_reducible refine gd 5 rfl ?_); refine bx 5 #[.int .i64 a0_0, .int .i64 a0_1, .slice A0_2 l0_2.length c0_2] 24 rfl rfl ?_; intro gb265 hg w52 hbox hb; have n_ := aC (bs hb) (aC hbox (aC (gz hg) (aE (gz hg)))); clear HB; obtain ⟨HB, BK265, GW265, GE265⟩ := n_; clear hb hbox hg) | ((with_reducible refine gd 10 rfl ?_); refine bx 10 #[.int .i64 0, .int .i64 0, .slice none 0 0] 24 rfl rfl ?_; intro gb266 hg w53 hbox hb; have n_ := aC (blk_below (bU BK265.out) hb) (aC (bs hb) (aC hbox (aC (gz hg) (aC (gz hg) (aC (gn hg (bU BK265.out)) (aE (gm hg (bU BK265.out)))))))); clear BK265 HB; obtain ⟨BK265, HB, BK266, GW266, GE266, NB265_266, NB266_265⟩ := n_; clear hb hbox hg; have hnb54 := NB265_266.out; have hnc54 := NB266_265.out; obtain ⟨hcz55_0, hcz55_1, hcz55_2, hfz55_0, hfz55_1, hfz55_2⟩ := cz3f BK265.out) | ((with_reducible refine gf 38 rfl ?_); refine gL (some 17) rfl rfl Try.func38 rfl #[.agg #[.int .i64 a0_0, .int .i64 a0_1, .slice A0_2 l0_2.length c0_2]] rfl ?_; (with_reducible refine (bitmap_Valid.calls k a0_0 a0_1 _ _ l0_2 true _ ?side1 ?side2 A6.out).mono ?_); (case side1 => exact cU (Kd.C_below HR0_2.out HB.out)); (case side2 => exact HC0_2.out); rintro e w56 ⟨rfl, hb⟩; refine ⟨_, rfl, ?_⟩; have n_ := aC (blk_below (bU BK265.out) hb) (aC (blk_below (bU BK266.out) hb) (aE (bs hb))); clear BK265 BK266 HB; obtain ⟨BK265, BK266, HB⟩ := n_; (try clear hb)) | (go_at_call 86; (with_reducible refine (bitmap_isShift.calls a1 a2 false _ A22.out).mono ?_); rintro e w57 ⟨rfl, hb⟩; have n_ := aC (blk_below (bU BK265.out) hb) (aC (blk_below (bU BK266.out) hb) (aE (bs hb))); clear BK265 BK266 HB; obtain ⟨BK265, BK266, HB⟩ := n_; (try clear hb); obtain ⟨hcz58_0, hcz58_1, hcz58_2, hfz58_0, hfz58_1, hfz58_2⟩ := cz3f BK266.out))
     refine bodyPost_ret (results_ct rfl _ _ gb266 24 #[.int .i64 0, .int .i64 0, .slice none 0 0] (0, 0) _ rfl (by (with_reducible repeat (first | refine blk_drewN ?_ _ | refine blk_drew ?_ | refine blk_alloc ?_ _)); refine blk_put (cs := #[.int .i64 0, .int .i64 0, .slice none 0 0]) ?_ 2 _ rfl; (with_reducible repeat (first | refine blk_drewN ?_ _ | refine blk_drew ?_ | refine blk_alloc ?_ _)); refine blk_put (cs := #[.int .i64 0, .int .i64 0, .slice none 0 0]) ?_ 1 _ rfl; (with_reducible repeat (first | refine blk_drewN ?_ _ | refine blk_drew ?_ | refine blk_alloc ?_ _)); refine blk_put (cs := #[.int .i64 0, .int .i64 0, .slice none 0 0]) ?_ 0 _ rfl; (with_reducible repeat (first | refine blk_drewN ?_ _ | refine blk_drew ?_ | refine blk_alloc ?_ _)); exact BK266.out) Try.underlying24 rfl (by kernel_rfl)) rfl ?_
     exact ⟨_, re, by first | exact Kd.R_nil _ _ _ _ _ | exact Kd.N_nil _ _ _ _ _ | exact Kd.V_nil _ _ _ _ _ | exact Kd.Q_nil _ _ _ _ _ | exact Kd.S_nil _ _ _ _ _, bl⟩
 ·replace c7 := Bool.eq_false_iff.mpr c7
  subst c7
  have H1 : (some (0, 0, ([] : List Int), 30)) = some (r1, r2, r3, r4) := by rw [if_neg (show ¬ (false = true) by decide)] at H; exact H
  clear H
  have H := H1
  clear H1
  simp only [Option.some.injEq, Prod.mk.injEq] at H
  obtain ⟨rfl, rfl, rfl, rfl⟩ := H
  go_enter Try.func91, Try.ntmps91
  go_wp2_with (first | ((with_reducible refine gd 5 rfl ?_); refine bx 5 #[.int .i64 a0_0, .int .i64 a0_1, .slice A0_2 l0_2.length c0_2] 24 rfl rfl ?_; intro gb265 hg w59 hbox hb; have n_ := aC (bs hb) (aC hbox (aC (gz hg) (aE (gz hg)))); clear HB; obtain ⟨HB, BK265, GW265, GE265⟩ := n_; clear hb hbox hg) | ((with_reducible refine gd 10 rfl ?_); refine bx 10 #[.int .i64 0, .int .i64 0, .slice none 0 0] 24 rfl rfl ?_; intro gb266 hg w60 hbox hb; have n_ := aC (blk_below (bU BK265.out) hb) (aC (bs hb) (aC hbox (aC (gz hg) (aC (gz hg) (aC (gn hg (bU BK265.out)) (aE (gm hg (bU BK265.out)))))))); clear BK265 HB; obtain ⟨BK265, HB, BK266, GW266, GE266, NB265_266, NB266_265⟩ := n_; clear hb hbox hg; have hnb61 := NB265_266.out; have hnc61 := NB266_265.out; obtain ⟨hcz62_0, hcz62_1, hcz62_2, hfz62_0, hfz62_1, hfz62_2⟩ := cz3f BK265.out) | ((with_reducible refine gf 38 rfl ?_); refine gL (some 17) rfl rfl Try.func38 rfl #[.agg #[.int .i64 a0_0, .int .i64 a0_1, .slice A0_2 l0_2.length c0_2]] rfl ?_; (with_reducible refine (bitmap_Valid.calls k a0_0 a0_1 _ _ l0_2 false _ ?side1 ?side2 A6.out).mono ?_); (case side1 => exact cU (Kd.C_below HR0_2.out HB.out)); (case side2 => exact HC0_2.out); rintro e w63 ⟨rfl, hb⟩; refine ⟨_, rfl, ?_⟩; have n_ := aC (blk_below (bU BK265.out) hb) (aC (blk_below (bU BK266.out) hb) (aE (bs hb))); clear BK265 BK266 HB; obtain ⟨BK265, BK266, HB⟩ := n_; (try clear hb); obtain ⟨hcz64_0, hcz64_1, hcz64_2, hfz64_0, hfz64_1, hfz64_2⟩ := cz3f BK266.out))
  refine bodyPost_ret (results_ct rfl _ _ gb266 24 #[.int .i64 0, .int .i64 0, .slice none 0 0] (0, 0) _ rfl (by (with_reducible repeat (first | refine blk_drewN ?_ _ | refine blk_drew ?_ | refine blk_alloc ?_ _)); refine blk_put (cs := #[.int .i64 0, .int .i64 0, .slice none 0 0]) ?_ 2 _ rfl; (with_reducible repeat (first | refine blk_drewN ?_ _ | refine blk_drew ?_ | refine blk_alloc ?_ _)); refine blk_put (cs := #[.int .i64 0, .int .i64 0, .slice none 0 0]) ?_ 1 _ rfl; (with_reducible repeat (first | refine blk_drewN ?_ _ | refine blk_drew ?_ | refine blk_alloc ?_ _)); refine blk_put (cs := #[.int .i64 0, .int .i64 0, .slice none 0 0]) ?_ 0 _ rfl; (with_reducible repeat (first | refine blk_drewN ?_ _ | refine blk_drew ?_ | refine blk_alloc ?_ _)); exact BK266.out) Try.underlying24 rfl (by kernel_rfl)) rfl ?_
  exact ⟨_, re, by first | exact Kd.R_nil _ _ _ _ _ | exact Kd.N_nil _ _ _ _ _ | exact Kd.V_nil _ _ _ _ _ | exact Kd.Q_nil _ _ _ _ _ | exact Kd.S_nil _ _ _ _ _, bl⟩

end Go.Proofs.Ytaflekobfbgedaa.PShapePieces
