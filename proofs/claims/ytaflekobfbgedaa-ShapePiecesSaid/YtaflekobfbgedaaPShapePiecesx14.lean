-- Written by a program of this session (wip/tools/myprint.py) over the kit's print. Not trusted: Lean checks it.
import Derived.Test.YtaflekobfbgedaaPShapePiecesx0
import Derived.Test.YtaflekobfbgedaaPShapePiecesx11
import Derived.Test.YtaflekobfbgedaaPShapePiecesx13
namespace Go.Proofs.Ytaflekobfbgedaa.PShapePieces
open Go.RowKit Go.Proofs.YtaflekobfbgedaaW.PrintWords Go.Proofs.YtaflekobfbgedaaW.PrintLast Go.Proofs.YtaflekobfbgedaaW.PrintMore
attribute [local go_sem] max2_int min2_int max_two min_two max_three min_three max_four min_four   -- for this text's walks alone
set_option linter.unusedVariables false
set_option linter.unusedSimpArgs false

/-! ### incunableref15_Pieces: function 35 -/
mutual
def incunableref15_Pieces.l0 : Nat → List (S48) → List (S48) → Int → Option ((List (S48)) × Int)
 | 0, _, _, _ => none
 | k + 1, x4, x6, x7 => if x7 < (x4.length : Int) then (if 0 ≤ x7 then (incunableref15_Pieces.l1 k x4 x6 x7 0 ((rd_T48 x4 x7).f0.f0) ((rd_T48 x4 x7).f0.f1) ((rd_T48 x4 x7).f0.f2)) else (none)) else (some (x6, 0))
def incunableref15_Pieces.l1 : Nat → List (S48) → List (S48) → Int → Int → Int → Int → List Int → Option ((List (S48)) × Int)
 | 0, _, _, _, _, _, _, _ => none
 | k + 1, x4, x6, x7, x9, x419000, x419001, x419002 => if x9 < x419001 then (incunableref15_Pieces.l2 k x4 x6 x7 x9 0 x419000 x419001 x419002) else (incunableref15_Pieces.l0 k x4 x6 (wrap64 (x7 + 1)))
def incunableref15_Pieces.l2 : Nat → List (S48) → List (S48) → Int → Int → Int → Int → Int → List Int → Option ((List (S48)) × Int)
 | 0, _, _, _, _, _, _, _, _ => none
 | k + 1, x4, x6, x7, x9, x10, x419000, x419001, x419002 => if x10 < x419000 then ((incunableref05_Part.f k x419000 x419001 x419002 x10 x9 (mn 40 (wrap64 (x419000 - x10))) (mn 40 (wrap64 (x419001 - x9)))).bind fun bt419 => ((incunableref05_Trim.f k bt419.1 bt419.2.1 bt419.2.2).bind fun bt425 => (if bt425.1 > 0 then (if 0 ≤ x7 then (if x7 < (x4.length : Int) then (if x6.length < 2513169434916 then (incunableref15_Pieces.l2 k x4 (x6 ++ [(⟨(⟨bt425.1, bt425.2.1, bt425.2.2.1⟩ : S24), wrap64 ((wrap64 (((rd_T48 x4 x7).f1) + x10)) + bt425.2.2.2.1), wrap64 ((wrap64 (((rd_T48 x4 x7).f2) + x9)) + bt425.2.2.2.2.1)⟩ : S48)]) x7 x9 (wrap64 (x10 + 40)) x419000 x419001 x419002) else (none)) else (none)) else (none)) else (incunableref15_Pieces.l2 k x4 x6 x7 x9 (wrap64 (x10 + 40)) x419000 x419001 x419002)))) else (incunableref15_Pieces.l1 k x4 x6 x7 (wrap64 (x9 + 40)) x419000 x419001 x419002)
end
def incunableref15_Pieces.f (k : Nat) (a0_0 : Int) (a0_1 : Int) (l0_2 : List Int) : Option ((List (S48)) × Int) := (incunableref15_Components.f k a0_0 a0_1 l0_2).bind fun bt413 => (if bt413.2 = 0 then (incunableref15_Pieces.l0 k bt413.1 ([] : List (S48)) 0) else (some (([] : List (S48)), bt413.2)))
theorem incunableref15_Pieces.mono_l : ∀ k, (∀ y0 y1 y2, LeO (incunableref15_Pieces.l0 k y0 y1 y2) (incunableref15_Pieces.l0 (k + 1) y0 y1 y2)) ∧ (∀ y0 y1 y2 y3 y4 y5 y6, LeO (incunableref15_Pieces.l1 k y0 y1 y2 y3 y4 y5 y6) (incunableref15_Pieces.l1 (k + 1) y0 y1 y2 y3 y4 y5 y6)) ∧ (∀ y0 y1 y2 y3 y4 y5 y6 y7, LeO (incunableref15_Pieces.l2 k y0 y1 y2 y3 y4 y5 y6 y7) (incunableref15_Pieces.l2 (k + 1) y0 y1 y2 y3 y4 y5 y6 y7))
 | 0 => ⟨fun _ _ _ r h => by simp [incunableref15_Pieces.l0] at h, fun _ _ _ _ _ _ _ r h => by simp [incunableref15_Pieces.l1] at h, fun _ _ _ _ _ _ _ _ r h => by simp [incunableref15_Pieces.l2] at h⟩
 | k + 1 => by
  obtain ⟨ih0, ih1, ih2⟩ := incunableref15_Pieces.mono_l k
  refine ⟨?_, ?_, ?_⟩
  ·intro y0 y1 y2
   unfold incunableref15_Pieces.l0
   repeat' first
   | (with_reducible exact ih0 _ _ _)
   | (with_reducible exact ih1 _ _ _ _ _ _ _)
   | (with_reducible exact ih2 _ _ _ _ _ _ _ _)
   | (with_reducible exact incunableref05_Part.mono _ _ _ _ _ _ _ _)
   | (with_reducible exact incunableref05_Trim.mono _ _ _ _)
   | (with_reducible exact incunableref15_Components.mono _ _ _ _)
   | (with_reducible first | exact LeO.refl _ | exact LeO.none _ | refine LeO.ite ?_ ?_ | refine LeO.bind ?_ (fun _ => ?_))
   | exact ih0 _ _ _
   | exact ih1 _ _ _ _ _ _ _
   | exact ih2 _ _ _ _ _ _ _ _
   | exact incunableref05_Part.mono _ _ _ _ _ _ _ _
   | exact incunableref05_Trim.mono _ _ _ _
   | exact incunableref15_Components.mono _ _ _ _
   | exact LeO.none _ | refine LeO.ite ?_ ?_ | refine LeO.bind ?_ (fun _ => ?_)
  ·intro y0 y1 y2 y3 y4 y5 y6
   unfold incunableref15_Pieces.l1
   repeat' first
   | (with_reducible exact ih0 _ _ _)
   | (with_reducible exact ih1 _ _ _ _ _ _ _)
   | (with_reducible exact ih2 _ _ _ _ _ _ _ _)
   | (with_reducible exact incunableref05_Part.mono _ _ _ _ _ _ _ _)
   | (with_reducible exact incunableref05_Trim.mono _ _ _ _)
   | (with_reducible exact incunableref15_Components.mono _ _ _ _)
   | (with_reducible first | exact LeO.refl _ | exact LeO.none _ | refine LeO.ite ?_ ?_ | refine LeO.bind ?_ (fun _ => ?_))
   | exact ih0 _ _ _
   | exact ih1 _ _ _ _ _ _ _
   | exact ih2 _ _ _ _ _ _ _ _
   | exact incunableref05_Part.mono _ _ _ _ _ _ _ _
   | exact incunableref05_Trim.mono _ _ _ _
   | exact incunableref15_Components.mono _ _ _ _
   | exact LeO.none _ | refine LeO.ite ?_ ?_ | refine LeO.bind ?_ (fun _ => ?_)
  ·intro y0 y1 y2 y3 y4 y5 y6 y7
   unfold incunableref15_Pieces.l2
   repeat' first
   | (with_reducible exact ih0 _ _ _)
   | (with_reducible exact ih1 _ _ _ _ _ _ _)
   | (with_reducible exact ih2 _ _ _ _ _ _ _ _)
   | (with_reducible exact incunableref05_Part.mono _ _ _ _ _ _ _ _)
   | (with_reducible exact incunableref05_Trim.mono _ _ _ _)
   | (with_reducible exact incunableref15_Components.mono _ _ _ _)
   | (with_reducible first | exact LeO.refl _ | exact LeO.none _ | refine LeO.ite ?_ ?_ | refine LeO.bind ?_ (fun _ => ?_))
   | exact ih0 _ _ _
   | exact ih1 _ _ _ _ _ _ _
   | exact ih2 _ _ _ _ _ _ _ _
   | exact incunableref05_Part.mono _ _ _ _ _ _ _ _
   | exact incunableref05_Trim.mono _ _ _ _
   | exact incunableref15_Components.mono _ _ _ _
   | exact LeO.none _ | refine LeO.ite ?_ ?_ | refine LeO.bind ?_ (fun _ => ?_)
theorem incunableref15_Pieces.mono : ∀ a0 a1 a2 k, LeO (incunableref15_Pieces.f k a0 a1 a2) (incunableref15_Pieces.f (k + 1) a0 a1 a2) := by
 intro a0 a1 a2 k
 obtain ⟨ih0, ih1, ih2⟩ := incunableref15_Pieces.mono_l k
 unfold incunableref15_Pieces.f
 repeat' first
   | (with_reducible exact ih0 _ _ _)
   | (with_reducible exact ih1 _ _ _ _ _ _ _)
   | (with_reducible exact ih2 _ _ _ _ _ _ _ _)
   | (with_reducible exact incunableref05_Part.mono _ _ _ _ _ _ _ _)
   | (with_reducible exact incunableref05_Trim.mono _ _ _ _)
   | (with_reducible exact incunableref15_Components.mono _ _ _ _)
   | (with_reducible first | exact LeO.refl _ | exact LeO.none _ | refine LeO.ite ?_ ?_ | refine LeO.bind ?_ (fun _ => ?_))
   | exact ih0 _ _ _
   | exact ih1 _ _ _ _ _ _ _
   | exact ih2 _ _ _ _ _ _ _ _
   | exact incunableref05_Part.mono _ _ _ _ _ _ _ _
   | exact incunableref05_Trim.mono _ _ _ _
   | exact incunableref15_Components.mono _ _ _ _
   | exact LeO.none _ | refine LeO.ite ?_ ?_ | refine LeO.bind ?_ (fun _ => ?_)
def incunableref15_Pieces.T18 : Bool × List (List Nat × List Nat) := (true, [([], []), ([], []), ([], []), ([], []), ([2, 3], [2, 3]), ([4], [4]), ([5], [5]), ([], []), ([6, 7], [6, 7]), ([], []), ([8, 9], [8, 9]), ([], []), ([], []), ([11, 12], [11, 12]), ([13], [13]), ([14], [14]), ([], []), ([15, 16], [15, 16]), ([], []), ([17, 18], [17, 18]), ([1, 10, 19], [1, 10, 19]), ([20], [20]), ([0, 21], [0, 21]), ([22, 22, 0, 1, 2, 3, 4, 5, 6, 7, 8, 9, 10, 11, 12, 13, 14, 15, 16, 17, 18, 19, 20, 21, 22], [0, 22])])
def incunableref15_Pieces.B18 : List Nat := [0, 0, 0, 0, 12, 28, 60, 0, 252, 0, 1020, 0, 0, 6144, 14336, 30720, 0, 129024, 0, 522240, 1048574, 2097150, 4194303, 8388607]
theorem incunableref15_Pieces.tab18 : rtab .any (opsOf Try.f35 18) = incunableref15_Pieces.T18 := by kernel_rfl
theorem incunableref15_Pieces.bits18 : waitsOk incunableref15_Pieces.T18.2 incunableref15_Pieces.B18 = true := by kernel_rfl
set_option maxHeartbeats 8000000 in
set_option maxRecDepth 100000 in
theorem incunableref15_Pieces.calls (k : Nat) (a0_0 : Int) (a0_1 : Int) (A0_2 : Option Addr) (c0_2 : Nat) (l0_2 : List Int) (r1 : List (S48)) (r2 : Int) (w : World) (hr0_2 : Kd.C (Kd.int .u8) w A0_2 l0_2.length l0_2) (hc0_2 : l0_2.length ≤ c0_2) (h : incunableref15_Pieces.f k a0_0 a0_1 l0_2 = some (r1, r2)) :
  Calls Try.prog 35 #[.agg #[.int .i64 a0_0, .int .i64 a0_1, .slice A0_2 l0_2.length c0_2]] w fun e w' => ∃ v0_ : Value, e = .returned (.tuple #[v0_, .int .i64 r2]) ∧ Kd.S k48 48 w' w.heap.size (fun _ => True) v0_ r1 ∧ Below w.heap.size w w' := by
 have hu24 := Try.underlying24
 have hu48 := Try.underlying48
 have HR0_2 := Aside0.mk hr0_2
 have HC0_2 := Aside0.mk hc0_2
 clear hr0_2 hc0_2
 have HB := Aside0.mk (Below.refl w.heap.size w)
 have H : ((incunableref15_Components.f k a0_0 a0_1 l0_2).bind fun bt413 => (if bt413.2 = 0 then (incunableref15_Pieces.l0 k bt413.1 ([] : List (S48)) 0) else (some (([] : List (S48)), bt413.2)))) = some (r1, r2) := h
 clear h
 replace H := Option.bind_eq_some_iff.mp H
 obtain ⟨⟨t413, t416⟩, A20, H⟩ := H
 replace H : (if t416 = 0 then (incunableref15_Pieces.l0 k t413 ([] : List (S48)) 0) else (some (([] : List (S48)), t416))) = some (r1, r2) := H
 have A2 := Aside0.mk A20
 clear A20
 by_cases c3 : t416 = 0
 ·rw [if_pos c3] at H
  have c3b0 := beq_iff_eq.mpr c3
  have c3b1 := bne_eq_false_iff_eq.mpr c3
  clear c3
  have H' := Aside0.mk H
  clear H
  go_enter Try.func35, Try.ntmps35
  go_wp2_with (first | ((with_reducible refine gd 1 rfl ?_); refine bx 1 #[.int .i64 a0_0, .int .i64 a0_1, .slice A0_2 l0_2.length c0_2] 24 rfl rfl ?_; intro gb412 hg w4 hbox hb; have n_ := aC (bs hb) (aC hbox (aC (gz hg) (aE (gz hg)))); clear HB; obtain ⟨HB, BK412, GW412, GE412⟩ := n_; clear hb hbox hg; obtain ⟨hcz5_0, hcz5_1, hcz5_2, hfz5_0, hfz5_1, hfz5_2⟩ := cz3f BK412.out) | ((with_reducible refine gf 22 rfl ?_); refine gL (some 18) rfl rfl Try.func22 rfl #[.agg #[.int .i64 a0_0, .int .i64 a0_1, .slice A0_2 l0_2.length c0_2]] rfl ?_; (with_reducible refine (incunableref15_Components.calls k a0_0 a0_1 _ _ l0_2 t413 t416 _ ?side1 ?side2 A2.out).mono ?_); (case side1 => exact cU (Kd.C_below HR0_2.out HB.out)); (case side2 => exact HC0_2.out); rintro e w6 ⟨v414, rfl, ho0, hb⟩; refine ⟨_, rfl, ?_⟩; have n_ := aC (Kd.S_lower ho0 bz) (aC (blk_below (bU BK412.out) hb) (aE (bs hb))); clear BK412 HB; obtain ⟨HO415, BK412, HB⟩ := n_; (try clear hb); (try clear ho0)))
  go_loopg [6, 7] k (fun kq v6 v7 w' => ∃ (x6_1 : List (S48)) (x7_1 : Int), v7 = .int .i64 x7_1 ∧ Aside0 (incunableref15_Pieces.l0 kq t413 x6_1 x7_1 = some (r1, r2)) ∧ Aside0 (kq ≤ k) ∧ Aside0 (Kd.S k48 48 w' w.heap.size (fun k_ => some k_ ≠ (v6 : Value).ownBlock) v414 t413) ∧ Aside0 (Kd.S k48 48 w' w.heap.size (fun k_ => some k_ ≠ (v414 : Value).ownBlock) v6 x6_1) ∧ Aside0 (w'.heap[gb412]? = some (.cells #[.int .i64 a0_0, .int .i64 a0_1, (.slice A0_2 l0_2.length c0_2)] 24 (0, 0))) ∧ Aside0 (Below w.heap.size w w'))
  case atStart => exact ⟨(([] : List (S48))), (0), rq, H', ⟨Nat.le_refl _⟩, ⟨by (with_reducible repeat (first | apply Kd.S_alloc | apply Kd.S_drewN | apply Kd.S_drew)); exact Kd.S_mono HO415.out (fun _ hk => (by simp [Value.ownBlock]))⟩, ⟨by first | exact Kd.S_nil _ _ _ _ _ | exact Kd.N_nil _ _ _ _ _ | exact Kd.V_nil _ _ _ _ _ | exact Kd.Q_nil _ _ _ _ _ | exact Kd.R_nil _ _ _ _ _⟩, ⟨bU BK412.out⟩, ⟨bl⟩⟩
  case round =>
   clear H'
   obtain ⟨x6_1, x7_1, rfl, HA, HK1, HO_4, HO_6, BK412, HB⟩ := hrel
   cases gk with
   | zero => exact absurd HA.out (by simp [incunableref15_Pieces.l0])
   | succ k1 =>
    have H := HA.out
    clear HA
    simp only [incunableref15_Pieces.l0] at H
    by_cases c7 : x7_1 < (t413.length : Int)
    ·rw [if_pos c7] at H
     have c7b0 := decide_eq_true c7
     clear c7
     by_cases c8 : 0 ≤ x7_1
     ·rw [if_pos c8] at H
      have c8b0 := decide_eq_true c8
      clear c8
      have H' := Aside0.mk H
      clear H
      obtain ⟨Ao9, co9, eo9⟩ := Kd.S_slice HO_4.out
      subst eo9
      have p417 : 0 ≤ (x7_1 : Int) := dt
      have q417 : x7_1 < (t413.length : Int) := dt
      obtain ⟨ad417, A417_2, c417_2, e417, hx417_0, hx417_1, hx417_2, hx417_3, hx417_4, hl417_2, hi417_2⟩ := at_T48 (Kd.S_reads' HO_4.out).2.2 x7_1 p417 q417
      cases e417
      obtain ⟨ce417, hce417, hMe417, hcc417⟩ := Kd.S_get HO_4.out z48 x7_1 p417 (by first | exact q417 | exact dt | (have e_ := (Kd.S_reads' HO_4.out).1; omega))
      obtain ⟨ve417_2, rfl, ge417_2⟩ := k48_openM hMe417
      have hv417_2 := hcc417 2 _ rfl
      rw [add_field _ _ 2 (by omega)] at hv417_2
      replace hv417_2 := Option.some.inj (hv417_2.symm.trans hx417_2)
      rw [hv417_2] at ge417_2
      have HL417_2 := Aside0.mk (show Kd.R (Kd.int .u8) 5 _ _ _ _ ((rd_T48 t413 x7_1).f0.f2) from ge417_2)
      clear hv417_2 ge417_2
      clear hcc417 hce417
      have HR417_2 := Aside0.mk hi417_2
      have HC417_2 := Aside0.mk hl417_2
      clear hi417_2 hl417_2
      replace p417 := eq_true p417
      replace q417 := eq_true q417
      go_wp2_with (first | ((with_reducible refine gd 8 rfl ?_); refine bx 8 #[.int .i64 0, .int .i64 0, .slice none 0 0] 24 rfl rfl ?_; intro gb418 hg w10 hbox hb; have n_ := aC (Kd.S_below (by (with_reducible repeat (first | apply Kd.S_alloc | apply Kd.S_drewN | apply Kd.S_drew)); exact HO_4.out) hb) (aC (Kd.S_below (by (with_reducible repeat (first | apply Kd.S_alloc | apply Kd.S_drewN | apply Kd.S_drew)); exact HO_6.out) hb) (aC (Kd.R_below (rU HL417_2.out) hb) (aC (blk_below (bU BK412.out) hb) (aC (Kd.C_below (by repeat (first | (with_reducible exact HR417_2.out) | (with_reducible refine Kd.C_alloc ?_ _) | (with_reducible refine Kd.C_drewN ?_ _) | (with_reducible refine Kd.C_drew ?_) | exact HR417_2.out)) hb) (aC (bs hb) (aC hbox (aC (gz hg) (aC (gz hg) (aC (gn hg (bU BK412.out)) (aE (gm hg (bU BK412.out)))))))))))); clear HO_4 HO_6 HL417_2 BK412 HR417_2 HB; obtain ⟨HO_4, HO_6, HL417_2, BK412, HR417_2, HB, BK418, GW418, GE418, NB412_418, NB418_412⟩ := n_; clear hb hbox hg; have hnb11 := NB418_412.out; have hnc11 := NB412_418.out; obtain ⟨hcz12_0, hcz12_1, hcz12_2, hfz12_0, hfz12_1, hfz12_2⟩ := cz3f BK418.out))
      go_loopg [6, 9] k1 (fun kq v6 v9 w' => ∃ (x6_2 : List (S48)) (x9_2 : Int), v9 = .int .i64 x9_2 ∧ Aside0 (incunableref15_Pieces.l1 kq t413 x6_2 x7_1 x9_2 ((rd_T48 t413 x7_1).f0.f0) ((rd_T48 t413 x7_1).f0.f1) ((rd_T48 t413 x7_1).f0.f2) = some (r1, r2)) ∧ Aside0 (kq ≤ k1) ∧ Aside0 (Kd.S k48 48 w' w.heap.size (fun k_ => some k_ ≠ (v6 : Value).ownBlock) (.slice (some ad417) t413.length co9) t413) ∧ Aside0 (Kd.S k48 48 w' w.heap.size (fun k_ => some k_ ≠ ((.slice (some ad417) t413.length co9) : Value).ownBlock) v6 x6_2) ∧ Aside0 (Kd.R (Kd.int .u8) 5 w' w.heap.size (fun _ => True) (.slice A417_2 ((rd_T48 t413 x7_1).f0.f2).length c417_2) ((rd_T48 t413 x7_1).f0.f2)) ∧ Aside0 (w'.heap[gb412]? = some (.cells #[.int .i64 a0_0, .int .i64 a0_1, (.slice A0_2 l0_2.length c0_2)] 24 (0, 0))) ∧ Aside0 (w'.heap[gb418]? = some (.cells #[.int .i64 ((rd_T48 t413 x7_1).f0.f0), .int .i64 ((rd_T48 t413 x7_1).f0.f1), (.slice A417_2 ((rd_T48 t413 x7_1).f0.f2).length c417_2)] 24 (0, 0))) ∧ Aside0 (Below w.heap.size w w'))
      case atStart => exact ⟨(x6_1), (0), rq, H', ⟨Nat.le_refl _⟩, ⟨by (with_reducible repeat (first | apply Kd.S_alloc | apply Kd.S_drewN | apply Kd.S_drew)); exact Kd.S_mono (Kd.S_far (p := ⟨gb418, 2, none⟩) (Kd.S_far (p := ⟨gb418, 1, none⟩) (Kd.S_far (p := ⟨gb418, 0, none⟩) (Kd.S_types HO_4.out BK418.out (by decide)) (fun _ hk => hk.2) (.int .i64 ((rd_T48 t413 x7_1).f0.f0))) (fun _ hk => hk.2) (.int .i64 ((rd_T48 t413 x7_1).f0.f1))) (fun _ hk => hk.2) (.slice A417_2 ((rd_T48 t413 x7_1).f0.f2).length c417_2)) (fun _ hk => hk.1)⟩, ⟨by (with_reducible repeat (first | apply Kd.S_alloc | apply Kd.S_drewN | apply Kd.S_drew)); exact Kd.S_mono (Kd.S_far (p := ⟨gb418, 2, none⟩) (Kd.S_far (p := ⟨gb418, 1, none⟩) (Kd.S_far (p := ⟨gb418, 0, none⟩) (Kd.S_types HO_6.out BK418.out (by decide)) (fun _ hk => hk.2) (.int .i64 ((rd_T48 t413 x7_1).f0.f0))) (fun _ hk => hk.2) (.int .i64 ((rd_T48 t413 x7_1).f0.f1))) (fun _ hk => hk.2) (.slice A417_2 ((rd_T48 t413 x7_1).f0.f2).length c417_2)) (fun _ hk => hk.1)⟩, ⟨rU (Kd.R_mono (Kd.R_far (p := ⟨gb418, 2, none⟩) (Kd.R_far (p := ⟨gb418, 1, none⟩) (Kd.R_far (p := ⟨gb418, 0, none⟩) (Kd.R_types HL417_2.out BK418.out (by decide)) (fun _ hk => hk.2) (.int .i64 ((rd_T48 t413 x7_1).f0.f0))) (fun _ hk => hk.2) (.int .i64 ((rd_T48 t413 x7_1).f0.f1))) (fun _ hk => hk.2) (.slice A417_2 ((rd_T48 t413 x7_1).f0.f2).length c417_2)) (fun _ hk => trivial))⟩, ⟨by (with_reducible repeat (first | refine blk_drewN ?_ _ | refine blk_drew ?_ | refine blk_alloc ?_ _)); refine blk_far ?_ NB412_418.out _; (with_reducible repeat (first | refine blk_drewN ?_ _ | refine blk_drew ?_ | refine blk_alloc ?_ _)); refine blk_far ?_ NB412_418.out _; (with_reducible repeat (first | refine blk_drewN ?_ _ | refine blk_drew ?_ | refine blk_alloc ?_ _)); refine blk_far ?_ NB412_418.out _; (with_reducible repeat (first | refine blk_drewN ?_ _ | refine blk_drew ?_ | refine blk_alloc ?_ _)); exact BK412.out⟩, ⟨by (with_reducible repeat (first | refine blk_drewN ?_ _ | refine blk_drew ?_ | refine blk_alloc ?_ _)); refine blk_put (cs := #[.int .i64 ((rd_T48 t413 x7_1).f0.f0), .int .i64 ((rd_T48 t413 x7_1).f0.f1), .slice none 0 0]) ?_ 2 _ rfl; (with_reducible repeat (first | refine blk_drewN ?_ _ | refine blk_drew ?_ | refine blk_alloc ?_ _)); refine blk_put (cs := #[.int .i64 ((rd_T48 t413 x7_1).f0.f0), .int .i64 0, .slice none 0 0]) ?_ 1 _ rfl; (with_reducible repeat (first | refine blk_drewN ?_ _ | refine blk_drew ?_ | refine blk_alloc ?_ _)); refine blk_put (cs := #[.int .i64 0, .int .i64 0, .slice none 0 0]) ?_ 0 _ rfl; (with_reducible repeat (first | refine blk_drewN ?_ _ | refine blk_drew ?_ | refine blk_alloc ?_ _)); exact BK418.out⟩, ⟨bl⟩⟩
      case round =>
       clear H'
       obtain ⟨x6_2, x9_2, rfl, HA, HK2, HO_4, HO_6, HO_419002, BK412, BK418, HB⟩ := hrel
       cases gk with
       | zero => exact absurd HA.out (by simp [incunableref15_Pieces.l1])
       | succ k2 =>
        have H := HA.out
        clear HA
        simp only [incunableref15_Pieces.l1] at H
        by_cases c13 : x9_2 < ((rd_T48 t413 x7_1).f0.f1)
        ·rw [if_pos c13] at H
         have c13b0 := decide_eq_true c13
         clear c13
         have H' := Aside0.mk H
         clear H
         have hnb14 := NB418_412.out
         have hnc14 := NB412_418.out
         obtain ⟨hcz15_0, hcz15_1, hcz15_2, hfz15_0, hfz15_1, hfz15_2⟩ := cz3f BK418.out
         go_wp2
         go_loopg [6, 10] k2 (fun kq v6 v10 w' => ∃ (x6_3 : List (S48)) (x10_3 : Int), v10 = .int .i64 x10_3 ∧ Aside0 (incunableref15_Pieces.l2 kq t413 x6_3 x7_1 x9_2 x10_3 ((rd_T48 t413 x7_1).f0.f0) ((rd_T48 t413 x7_1).f0.f1) ((rd_T48 t413 x7_1).f0.f2) = some (r1, r2)) ∧ Aside0 (kq ≤ k2) ∧ Aside0 (Kd.S k48 48 w' w.heap.size (fun k_ => some k_ ≠ (v6 : Value).ownBlock) (.slice (some ad417) t413.length co9) t413) ∧ Aside0 (Kd.S k48 48 w' w.heap.size (fun k_ => some k_ ≠ ((.slice (some ad417) t413.length co9) : Value).ownBlock) v6 x6_3) ∧ Aside0 (Kd.R (Kd.int .u8) 5 w' w.heap.size (fun _ => True) (.slice A417_2 ((rd_T48 t413 x7_1).f0.f2).length c417_2) ((rd_T48 t413 x7_1).f0.f2)) ∧ Aside0 (w'.heap[gb412]? = some (.cells #[.int .i64 a0_0, .int .i64 a0_1, (.slice A0_2 l0_2.length c0_2)] 24 (0, 0))) ∧ Aside0 (w'.heap[gb418]? = some (.cells #[.int .i64 ((rd_T48 t413 x7_1).f0.f0), .int .i64 ((rd_T48 t413 x7_1).f0.f1), (.slice A417_2 ((rd_T48 t413 x7_1).f0.f2).length c417_2)] 24 (0, 0))) ∧ Aside0 (Below w.heap.size w w'))
         case atStart => exact ⟨(x6_2), (0), rq, H', ⟨Nat.le_refl _⟩, ⟨by (with_reducible repeat (first | apply Kd.S_alloc | apply Kd.S_drewN | apply Kd.S_drew)); exact HO_4.out⟩, ⟨by (with_reducible repeat (first | apply Kd.S_alloc | apply Kd.S_drewN | apply Kd.S_drew)); exact HO_6.out⟩, ⟨rU HO_419002.out⟩, ⟨bU BK412.out⟩, ⟨bU BK418.out⟩, ⟨bl⟩⟩
         case round =>
          clear H'
          obtain ⟨x6_3, x10_3, rfl, HA, HK3, HO_4, HO_6, HO_419002, BK412, BK418, HB⟩ := hrel
          cases gk with
          | zero => exact absurd HA.out (by simp [incunableref15_Pieces.l2])
          | succ k3 =>
           have H := HA.out
           clear HA
           simp only [incunableref15_Pieces.l2] at H
           by_cases c16 : x10_3 < ((rd_T48 t413 x7_1).f0.f0)
           ·rw [if_pos c16] at H
            have c16b0 := decide_eq_true c16
            clear c16
            obtain ⟨ji17, hji17⟩ : ∃ j_ : Int, (mn 40 (wrap64 (((rd_T48 t413 x7_1).f0.f0) - x10_3))) = j_ := ⟨_, rfl⟩
            replace H : ((incunableref05_Part.f k3 ((rd_T48 t413 x7_1).f0.f0) ((rd_T48 t413 x7_1).f0.f1) ((rd_T48 t413 x7_1).f0.f2) x10_3 x9_2 (ji17) (mn 40 (wrap64 (((rd_T48 t413 x7_1).f0.f1) - x9_2)))).bind fun bt419 => ((incunableref05_Trim.f k3 bt419.1 bt419.2.1 bt419.2.2).bind fun bt425 => (if bt425.1 > 0 then (if 0 ≤ x7_1 then (if x7_1 < (t413.length : Int) then (if x6_3.length < 2513169434916 then (incunableref15_Pieces.l2 k3 t413 (x6_3 ++ [(⟨(⟨bt425.1, bt425.2.1, bt425.2.2.1⟩ : S24), wrap64 ((wrap64 (((rd_T48 t413 x7_1).f1) + x10_3)) + bt425.2.2.2.1), wrap64 ((wrap64 (((rd_T48 t413 x7_1).f2) + x9_2)) + bt425.2.2.2.2.1)⟩ : S48)]) x7_1 x9_2 (wrap64 (x10_3 + 40)) ((rd_T48 t413 x7_1).f0.f0) ((rd_T48 t413 x7_1).f0.f1) ((rd_T48 t413 x7_1).f0.f2)) else (none)) else (none)) else (none)) else (incunableref15_Pieces.l2 k3 t413 x6_3 x7_1 x9_2 (wrap64 (x10_3 + 40)) ((rd_T48 t413 x7_1).f0.f0) ((rd_T48 t413 x7_1).f0.f1) ((rd_T48 t413 x7_1).f0.f2))))) = some (r1, r2) := by first | (rw [hji17] at H; exact H) | (simp only [hji17] at H ⊢; exact H)
            have hji17_ : (if (wrap64 (((rd_T48 t413 x7_1).f0.f0) - x10_3)) < 40 then (wrap64 (((rd_T48 t413 x7_1).f0.f0) - x10_3)) else 40) = ji17 := hji17
            obtain ⟨ji18, hji18⟩ : ∃ j_ : Int, (mn 40 (wrap64 (((rd_T48 t413 x7_1).f0.f1) - x9_2))) = j_ := ⟨_, rfl⟩
            replace H : ((incunableref05_Part.f k3 ((rd_T48 t413 x7_1).f0.f0) ((rd_T48 t413 x7_1).f0.f1) ((rd_T48 t413 x7_1).f0.f2) x10_3 x9_2 (ji17) (ji18)).bind fun bt419 => ((incunableref05_Trim.f k3 bt419.1 bt419.2.1 bt419.2.2).bind fun bt425 => (if bt425.1 > 0 then (if 0 ≤ x7_1 then (if x7_1 < (t413.length : Int) then (if x6_3.length < 2513169434916 then (incunableref15_Pieces.l2 k3 t413 (x6_3 ++ [(⟨(⟨bt425.1, bt425.2.1, bt425.2.2.1⟩ : S24), wrap64 ((wrap64 (((rd_T48 t413 x7_1).f1) + x10_3)) + bt425.2.2.2.1), wrap64 ((wrap64 (((rd_T48 t413 x7_1).f2) + x9_2)) + bt425.2.2.2.2.1)⟩ : S48)]) x7_1 x9_2 (wrap64 (x10_3 + 40)) ((rd_T48 t413 x7_1).f0.f0) ((rd_T48 t413 x7_1).f0.f1) ((rd_T48 t413 x7_1).f0.f2)) else (none)) else (none)) else (none)) else (incunableref15_Pieces.l2 k3 t413 x6_3 x7_1 x9_2 (wrap64 (x10_3 + 40)) ((rd_T48 t413 x7_1).f0.f0) ((rd_T48 t413 x7_1).f0.f1) ((rd_T48 t413 x7_1).f0.f2))))) = some (r1, r2) := by first | (rw [hji18] at H; exact H) | (simp only [hji18] at H ⊢; exact H)
            have hji18_ : (if (wrap64 (((rd_T48 t413 x7_1).f0.f1) - x9_2)) < 40 then (wrap64 (((rd_T48 t413 x7_1).f0.f1) - x9_2)) else 40) = ji18 := hji18
            replace H := Option.bind_eq_some_iff.mp H
            obtain ⟨⟨t419, t420, t421⟩, A190, H⟩ := H
            replace H : ((incunableref05_Trim.f k3 t419 t420 t421).bind fun bt425 => (if bt425.1 > 0 then (if 0 ≤ x7_1 then (if x7_1 < (t413.length : Int) then (if x6_3.length < 2513169434916 then (incunableref15_Pieces.l2 k3 t413 (x6_3 ++ [(⟨(⟨bt425.1, bt425.2.1, bt425.2.2.1⟩ : S24), wrap64 ((wrap64 (((rd_T48 t413 x7_1).f1) + x10_3)) + bt425.2.2.2.1), wrap64 ((wrap64 (((rd_T48 t413 x7_1).f2) + x9_2)) + bt425.2.2.2.2.1)⟩ : S48)]) x7_1 x9_2 (wrap64 (x10_3 + 40)) ((rd_T48 t413 x7_1).f0.f0) ((rd_T48 t413 x7_1).f0.f1) ((rd_T48 t413 x7_1).f0.f2)) else (none)) else (none)) else (none)) else (incunableref15_Pieces.l2 k3 t413 x6_3 x7_1 x9_2 (wrap64 (x10_3 + 40)) ((rd_T48 t413 x7_1).f0.f0) ((rd_T48 t413 x7_1).f0.f1) ((rd_T48 t413 x7_1).f0.f2)))) = some (r1, r2) := H
            have A19 := Aside0.mk A190
            clear A190
            replace H := Option.bind_eq_some_iff.mp H
            obtain ⟨⟨t425, t426, t427, t430, t431, t432⟩, A200, H⟩ := H
            replace H : (if t425 > 0 then (if 0 ≤ x7_1 then (if x7_1 < (t413.length : Int) then (if x6_3.length < 2513169434916 then (incunableref15_Pieces.l2 k3 t413 (x6_3 ++ [(⟨(⟨t425, t426, t427⟩ : S24), wrap64 ((wrap64 (((rd_T48 t413 x7_1).f1) + x10_3)) + t430), wrap64 ((wrap64 (((rd_T48 t413 x7_1).f2) + x9_2)) + t431)⟩ : S48)]) x7_1 x9_2 (wrap64 (x10_3 + 40)) ((rd_T48 t413 x7_1).f0.f0) ((rd_T48 t413 x7_1).f0.f1) ((rd_T48 t413 x7_1).f0.f2)) else (none)) else (none)) else (none)) else (incunableref15_Pieces.l2 k3 t413 x6_3 x7_1 x9_2 (wrap64 (x10_3 + 40)) ((rd_T48 t413 x7_1).f0.f0) ((rd_T48 t413 x7_1).f0.f1) ((rd_T48 t413 x7_1).f0.f2))) = some (r1, r2) := H
            have A20 := Aside0.mk A200
            clear A200
            by_cases c21 : t425 > 0
            ·rw [if_pos c21] at H
             have c21b0 := decide_eq_true c21
             clear c21
             by_cases c22 : 0 ≤ x7_1
             ·rw [if_pos c22] at H
              have c22b0 := decide_eq_true c22
              clear c22
              by_cases c23 : x7_1 < (t413.length : Int)
              ·rw [if_pos c23] at H
               have c23b0 := decide_eq_true c23
               clear c23
               by_cases c24 : x6_3.length < 2513169434916
               ·rw [if_pos c24] at H
                have LMc24 := Aside0.mk c24
                clear c24
                obtain ⟨y436, hy_⟩ : ∃ y_ : List (S48), y_ = (x6_3 ++ [(⟨(⟨t425, t426, t427⟩ : S24), wrap64 ((wrap64 (((rd_T48 t413 x7_1).f1) + x10_3)) + t430), wrap64 ((wrap64 (((rd_T48 t413 x7_1).f2) + x9_2)) + t431)⟩ : S48)]) := ⟨_, rfl⟩
                replace H : (incunableref15_Pieces.l2 k3 t413 y436 x7_1 x9_2 (wrap64 (x10_3 + 40)) ((rd_T48 t413 x7_1).f0.f0) ((rd_T48 t413 x7_1).f0.f1) ((rd_T48 t413 x7_1).f0.f2)) = some (r1, r2) := rh
                have Ny436 := aE hy_
                clear hy_
                have H' := Aside0.mk H
                clear H
                have hnb25 := NB418_412.out
                have hnc25 := NB412_418.out
                obtain ⟨hcz26_0, hcz26_1, hcz26_2, hfz26_0, hfz26_1, hfz26_2⟩ := cz3f BK418.out
                try go_wp2_with (first | ((with_reducible refine gf 65 rfl ?_); refine goesL_ (some 60) rfl rfl Try.func65 (by kernel_rfl) rfl #[.agg #[.int .i64 ((rd_T48 t413 x7_1).f0.f0), .int .i64 ((rd_T48 t413 x7_1).f0.f1), .slice A417_2 ((rd_T48 t413 x7_1).f0.f2).length c417_2], .int .i64 x10_3, .int .i64 x9_2, .int .i64 ji17, .int .i64 ji18] rfl (by (try simp only [List.map_toArray, List.map_cons, List.map_nil]); first | done | (simp only [hji17, hji18]; rfl) | rfl | (simp only [List.length_drop, List.length_take]; rfl)) ?_; (with_reducible refine (incunableref05_Part.calls k3 ((rd_T48 t413 x7_1).f0.f0) ((rd_T48 t413 x7_1).f0.f1) _ _ ((rd_T48 t413 x7_1).f0.f2) x10_3 x9_2 ji17 ji18 t419 t420 t421 _ ?side1 ?side2 A19.out).mono ?_); (case side1 => exact cU (Kd.R_reads' HO_419002.out).2.2); (case side2 => exact (Kd.R_reads' HO_419002.out).2.1); rintro e w27 ⟨v422, rfl, ho0, hb⟩; refine ⟨_, rfl, ?_⟩; have n_ := aC (Kd.S_elder' (by (with_reducible repeat (first | apply Kd.S_alloc | apply Kd.S_drewN | apply Kd.S_drew)); exact HO_4.out) (Kd.R_base ho0) hb) (aC (Kd.S_elder' (by (with_reducible repeat (first | apply Kd.S_alloc | apply Kd.S_drewN | apply Kd.S_drew)); exact HO_6.out) (Kd.R_base ho0) hb) (aC (Kd.R_elder' (rU HO_419002.out) (Kd.R_base ho0) hb) (aC (Kd.R_lower (Kd.R_new' ho0 (Kd.R_lt (rU HO_419002.out))) bz) (aC (blk_below (bU BK412.out) hb) (aC (blk_below (g := gb418) (o := .cells #[.int .i64 ((rd_T48 t413 x7_1).f0.f0), .int .i64 ((rd_T48 t413 x7_1).f0.f1), .slice A417_2 ((rd_T48 t413 x7_1).f0.f2).length c417_2] 24 (0, 0)) (bU BK418.out) hb) (aE (bs hb))))))); clear HO_4 HO_6 HO_419002 BK412 BK418 HB; obtain ⟨HO_4, HO_6, HO_419002, HO423, BK412, BK418, HB⟩ := n_; (try clear hb); (try clear ho0)) | ((with_reducible refine gd 11 rfl ?_); refine bx 11 #[.int .i64 0, .int .i64 0, .slice none 0 0] 24 rfl rfl ?_; intro gb424 hg w28 hbox hb; have n_ := aC (Kd.S_below (by (with_reducible repeat (first | apply Kd.S_alloc | apply Kd.S_drewN | apply Kd.S_drew)); exact HO_4.out) hb) (aC (Kd.S_below (by (with_reducible repeat (first | apply Kd.S_alloc | apply Kd.S_drewN | apply Kd.S_drew)); exact HO_6.out) hb) (aC (Kd.R_below (rU HO_419002.out) hb) (aC (Kd.R_below (rU HO423.out) hb) (aC (blk_below (bU BK412.out) hb) (aC (blk_below (g := gb418) (o := .cells #[.int .i64 ((rd_T48 t413 x7_1).f0.f0), .int .i64 ((rd_T48 t413 x7_1).f0.f1), .slice A417_2 ((rd_T48 t413 x7_1).f0.f2).length c417_2] 24 (0, 0)) (bU BK418.out) hb) (aC (bs hb) (aC hbox (aC (gz hg) (aC (gz hg) (aC (gn hg (bU BK412.out)) (aC (gm hg (bU BK412.out)) (aC ((by rw [hg]; exact Nat.ne_of_lt (blk_lt (g := gb418) (o := .cells #[.int .i64 ((rd_T48 t413 x7_1).f0.f0), .int .i64 ((rd_T48 t413 x7_1).f0.f1), .slice A417_2 ((rd_T48 t413 x7_1).f0.f2).length c417_2] 24 (0, 0)) (bU BK418.out)) : gb418 ≠ gb424)) (aE ((by rw [hg]; exact Nat.ne_of_gt (blk_lt (g := gb418) (o := .cells #[.int .i64 ((rd_T48 t413 x7_1).f0.f0), .int .i64 ((rd_T48 t413 x7_1).f0.f1), .slice A417_2 ((rd_T48 t413 x7_1).f0.f2).length c417_2] 24 (0, 0)) (bU BK418.out)) : gb424 ≠ gb418))))))))))))))); clear HO_4 HO_6 HO_419002 HO423 BK412 BK418 HB; obtain ⟨HO_4, HO_6, HO_419002, HO423, BK412, BK418, HB, BK424, GW424, GE424, NB412_424, NB424_412, NB418_424, NB424_418⟩ := n_; clear hb hbox hg; have hnb29 := NB424_412.out; have hnc29 := NB412_424.out; have hnb30 := NB424_418.out; have hnc30 := NB418_424.out; obtain ⟨hcz31_0, hcz31_1, hcz31_2, hfz31_0, hfz31_1, hfz31_2⟩ := cz3f BK424.out; obtain ⟨Ao32, co32, eo32⟩ := Kd.R_slice HO423.out; subst eo32) | ((with_reducible refine gf 34 rfl ?_); refine gL (some 63) rfl rfl Try.func34 rfl #[.agg #[.int .i64 t419, .int .i64 t420, .slice Ao32 t421.length co32]] rfl ?_; (with_reducible refine (incunableref05_Trim.calls k3 t419 t420 _ _ t421 t425 t426 t427 t430 t431 t432 _ ?side1 ?side2 A20.out).mono ?_); (case side1 => refine (Kd.R_reads' (e := 5) (base := w.heap.size) (ok := fun k_ => (True ∧ some k_ ≠ (.slice A417_2 ((rd_T48 t413 x7_1).f0.f2).length c417_2 : Value).ownBlock)) (n := t421.length) (c := co32) ?_).2.2; exact (rU (Kd.R_mono (Kd.R_far (p := ⟨gb424, 2, none⟩) (Kd.R_far (p := ⟨gb424, 1, none⟩) (Kd.R_far (p := ⟨gb424, 0, none⟩) (Kd.R_types HO423.out BK424.out (by decide)) (fun _ hk => hk.2) (.int .i64 t419)) (fun _ hk => hk.2) (.int .i64 t420)) (fun _ hk => hk.2) (.slice Ao32 t421.length co32)) (fun _ h_ => h_.1)))); (case side2 => exact (Kd.R_reads' HO423.out).2.1); rintro e w33 ⟨v428, rfl, ho0, hb⟩; refine ⟨_, rfl, ?_⟩; have n_ := aC (Kd.S_elder' (by (with_reducible repeat (first | apply Kd.S_alloc | apply Kd.S_drewN | apply Kd.S_drew)); exact (Kd.S_mono (Kd.S_far (p := ⟨gb424, 2, none⟩) (Kd.S_far (p := ⟨gb424, 1, none⟩) (Kd.S_far (p := ⟨gb424, 0, none⟩) (Kd.S_types HO_4.out BK424.out (by decide)) (fun _ hk => hk.2) (.int .i64 t419)) (fun _ hk => hk.2) (.int .i64 t420)) (fun _ hk => hk.2) (.slice Ao32 t421.length co32)) (fun _ h_ => h_.1))) (Kd.R_base ho0) hb) (aC (Kd.S_elder' (by (with_reducible repeat (first | apply Kd.S_alloc | apply Kd.S_drewN | apply Kd.S_drew)); exact (Kd.S_mono (Kd.S_far (p := ⟨gb424, 2, none⟩) (Kd.S_far (p := ⟨gb424, 1, none⟩) (Kd.S_far (p := ⟨gb424, 0, none⟩) (Kd.S_types HO_6.out BK424.out (by decide)) (fun _ hk => hk.2) (.int .i64 t419)) (fun _ hk => hk.2) (.int .i64 t420)) (fun _ hk => hk.2) (.slice Ao32 t421.length co32)) (fun _ h_ => h_.1))) (Kd.R_base ho0) hb) (aC (Kd.R_elder' (rU (Kd.R_mono (Kd.R_far (p := ⟨gb424, 2, none⟩) (Kd.R_far (p := ⟨gb424, 1, none⟩) (Kd.R_far (p := ⟨gb424, 0, none⟩) (Kd.R_types HO_419002.out BK424.out (by decide)) (fun _ hk => hk.2) (.int .i64 t419)) (fun _ hk => hk.2) (.int .i64 t420)) (fun _ hk => hk.2) (.slice Ao32 t421.length co32)) (fun _ h_ => h_.1))) (Kd.R_base ho0) hb) (aC (Kd.R_elder' (rU (Kd.R_mono (Kd.R_far (p := ⟨gb424, 2, none⟩) (Kd.R_far (p := ⟨gb424, 1, none⟩) (Kd.R_far (p := ⟨gb424, 0, none⟩) (Kd.R_types HO423.out BK424.out (by decide)) (fun _ hk => hk.2) (.int .i64 t419)) (fun _ hk => hk.2) (.int .i64 t420)) (fun _ hk => hk.2) (.slice Ao32 t421.length co32)) (fun _ h_ => h_.1))) (Kd.R_base ho0) hb) (aC (Kd.R_lower (Kd.R_new' (Kd.R_new' ho0 (Kd.R_lt (rU (Kd.R_mono (Kd.R_far (p := ⟨gb424, 2, none⟩) (Kd.R_far (p := ⟨gb424, 1, none⟩) (Kd.R_far (p := ⟨gb424, 0, none⟩) (Kd.R_types HO_419002.out BK424.out (by decide)) (fun _ hk => hk.2) (.int .i64 t419)) (fun _ hk => hk.2) (.int .i64 t420)) (fun _ hk => hk.2) (.slice Ao32 t421.length co32)) (fun _ h_ => h_.1))))) (Kd.R_lt (rU (Kd.R_mono (Kd.R_far (p := ⟨gb424, 2, none⟩) (Kd.R_far (p := ⟨gb424, 1, none⟩) (Kd.R_far (p := ⟨gb424, 0, none⟩) (Kd.R_types HO423.out BK424.out (by decide)) (fun _ hk => hk.2) (.int .i64 t419)) (fun _ hk => hk.2) (.int .i64 t420)) (fun _ hk => hk.2) (.slice Ao32 t421.length co32)) (fun _ h_ => h_.1))))) bz) (aC (blk_below (g := gb412) (o := .cells #[.int .i64 a0_0, .int .i64 a0_1, .slice A0_2 l0_2.length c0_2] 24 (0, 0)) (by (with_reducible repeat (first | refine blk_drewN ?_ _ | refine blk_drew ?_ | refine blk_alloc ?_ _)); refine blk_far ?_ NB412_424.out _; (with_reducible repeat (first | refine blk_drewN ?_ _ | refine blk_drew ?_ | refine blk_alloc ?_ _)); refine blk_far ?_ NB412_424.out _; (with_reducible repeat (first | refine blk_drewN ?_ _ | refine blk_drew ?_ | refine blk_alloc ?_ _)); refine blk_far ?_ NB412_424.out _; (with_reducible repeat (first | refine blk_drewN ?_ _ | refine blk_drew ?_ | refine blk_alloc ?_ _)); exact BK412.out) hb) (aC (blk_below (g := gb418) (o := .cells #[.int .i64 ((rd_T48 t413 x7_1).f0.f0), .int .i64 ((rd_T48 t413 x7_1).f0.f1), .slice A417_2 ((rd_T48 t413 x7_1).f0.f2).length c417_2] 24 (0, 0)) (by (with_reducible repeat (first | refine blk_drewN ?_ _ | refine blk_drew ?_ | refine blk_alloc ?_ _)); refine blk_far ?_ NB418_424.out _; (with_reducible repeat (first | refine blk_drewN ?_ _ | refine blk_drew ?_ | refine blk_alloc ?_ _)); refine blk_far ?_ NB418_424.out _; (with_reducible repeat (first | refine blk_drewN ?_ _ | refine blk_drew ?_ | refine blk_alloc ?_ _)); refine blk_far ?_ NB418_424.out _; (with_reducible repeat (first | refine blk_drewN ?_ _ | refine blk_drew ?_ | refine blk_alloc ?_ _)); exact BK418.out) hb) (aC (blk_below (g := gb424) (o := .cells #[.int .i64 t419, .int .i64 t420, .slice Ao32 t421.length co32] 24 (0, 0)) (by (with_reducible repeat (first | refine blk_drewN ?_ _ | refine blk_drew ?_ | refine blk_alloc ?_ _)); refine blk_put (cs := #[.int .i64 t419, .int .i64 t420, .slice none 0 0]) ?_ 2 _ rfl; (with_reducible repeat (first | refine blk_drewN ?_ _ | refine blk_drew ?_ | refine blk_alloc ?_ _)); refine blk_put (cs := #[.int .i64 t419, .int .i64 0, .slice none 0 0]) ?_ 1 _ rfl; (with_reducible repeat (first | refine blk_drewN ?_ _ | refine blk_drew ?_ | refine blk_alloc ?_ _)); refine blk_put (cs := #[.int .i64 0, .int .i64 0, .slice none 0 0]) ?_ 0 _ rfl; (with_reducible repeat (first | refine blk_drewN ?_ _ | refine blk_drew ?_ | refine blk_alloc ?_ _)); exact BK424.out) hb) (aE (bs hb))))))))); clear HO_4 HO_6 HO_419002 HO423 BK412 BK418 BK424 HB; obtain ⟨HO_4, HO_6, HO_419002, HO423, HO429, BK412, BK418, BK424, HB⟩ := n_; (try clear hb); (try clear ho0)) | ((with_reducible refine gd 12 rfl ?_); refine bx 12 #[.int .i64 0, .int .i64 0, .slice none 0 0] 24 rfl rfl ?_; intro gb433 hg w34 hbox hb; have n_ := aC (Kd.S_below (by (with_reducible repeat (first | apply Kd.S_alloc | apply Kd.S_drewN | apply Kd.S_drew)); exact HO_4.out) hb) (aC (Kd.S_below (by (with_reducible repeat (first | apply Kd.S_alloc | apply Kd.S_drewN | apply Kd.S_drew)); exact HO_6.out) hb) (aC (Kd.R_below (rU HO_419002.out) hb) (aC (Kd.R_below (rU HO423.out) hb) (aC (Kd.R_below (rU HO429.out) hb) (aC (blk_below (bU BK412.out) hb) (aC (blk_below (g := gb418) (o := .cells #[.int .i64 ((rd_T48 t413 x7_1).f0.f0), .int .i64 ((rd_T48 t413 x7_1).f0.f1), .slice A417_2 ((rd_T48 t413 x7_1).f0.f2).length c417_2] 24 (0, 0)) (bU BK418.out) hb) (aC (blk_below (bU BK424.out) hb) (aC (bs hb) (aC hbox (aC (gz hg) (aC (gz hg) (aC (gn hg (bU BK412.out)) (aC (gm hg (bU BK412.out)) (aC ((by rw [hg]; exact Nat.ne_of_lt (blk_lt (g := gb418) (o := .cells #[.int .i64 ((rd_T48 t413 x7_1).f0.f0), .int .i64 ((rd_T48 t413 x7_1).f0.f1), .slice A417_2 ((rd_T48 t413 x7_1).f0.f2).length c417_2] 24 (0, 0)) (bU BK418.out)) : gb418 ≠ gb433)) (aC ((by rw [hg]; exact Nat.ne_of_gt (blk_lt (g := gb418) (o := .cells #[.int .i64 ((rd_T48 t413 x7_1).f0.f0), .int .i64 ((rd_T48 t413 x7_1).f0.f1), .slice A417_2 ((rd_T48 t413 x7_1).f0.f2).length c417_2] 24 (0, 0)) (bU BK418.out)) : gb433 ≠ gb418)) (aC (gn hg (bU BK424.out)) (aE (gm hg (bU BK424.out))))))))))))))))))); clear HO_4 HO_6 HO_419002 HO423 HO429 BK412 BK418 BK424 HB; obtain ⟨HO_4, HO_6, HO_419002, HO423, HO429, BK412, BK418, BK424, HB, BK433, GW433, GE433, NB412_433, NB433_412, NB418_433, NB433_418, NB424_433, NB433_424⟩ := n_; clear hb hbox hg; have hnb35 := NB433_412.out; have hnc35 := NB412_433.out; have hnb36 := NB433_418.out; have hnc36 := NB418_433.out; have hnb37 := NB433_424.out; have hnc37 := NB424_433.out; obtain ⟨hcz38_0, hcz38_1, hcz38_2, hfz38_0, hfz38_1, hfz38_2⟩ := cz3f BK433.out; obtain ⟨Ao39, co39, eo39⟩ := Kd.R_slice HO429.out; subst eo39))
                have n0_ : Aside0 (Kd.S k48 48 (((w34.setCell ⟨gb433, 0, none⟩ (.int .i64 t425)).setCell ⟨gb433, 1, none⟩ (.int .i64 t426)).setCell ⟨gb433, 2, none⟩ (.slice Ao39 t427.length co39)) w.heap.size (fun k_ => some k_ ≠ (u6 : Value).ownBlock ∧ some k_ ≠ (.slice Ao32 t421.length co32 : Value).ownBlock ∧ some k_ ≠ (.slice Ao39 t427.length co39 : Value).ownBlock) (.slice (some ad417) t413.length co9) t413) := ⟨by (with_reducible repeat (first | apply Kd.S_alloc | apply Kd.S_drewN | apply Kd.S_drew)); exact Kd.S_mono (Kd.S_far (p := ⟨gb433, 2, none⟩) (Kd.S_far (p := ⟨gb433, 1, none⟩) (Kd.S_far (p := ⟨gb433, 0, none⟩) (Kd.S_types HO_4.out BK433.out (by decide)) (fun _ hk => hk.2) (.int .i64 t425)) (fun _ hk => hk.2) (.int .i64 t426)) (fun _ hk => hk.2) (.slice Ao39 t427.length co39)) (fun _ hk => ⟨hk.1.1.1, ⟨hk.1.1.2, hk.1.2⟩⟩)⟩
                have n1_ : Aside0 (Kd.S k48 48 (((w34.setCell ⟨gb433, 0, none⟩ (.int .i64 t425)).setCell ⟨gb433, 1, none⟩ (.int .i64 t426)).setCell ⟨gb433, 2, none⟩ (.slice Ao39 t427.length co39)) w.heap.size (fun k_ => some k_ ≠ (.slice (some ad417) t413.length co9 : Value).ownBlock ∧ some k_ ≠ (.slice Ao32 t421.length co32 : Value).ownBlock ∧ some k_ ≠ (.slice Ao39 t427.length co39 : Value).ownBlock) u6 x6_3) := ⟨by (with_reducible repeat (first | apply Kd.S_alloc | apply Kd.S_drewN | apply Kd.S_drew)); exact Kd.S_mono (Kd.S_far (p := ⟨gb433, 2, none⟩) (Kd.S_far (p := ⟨gb433, 1, none⟩) (Kd.S_far (p := ⟨gb433, 0, none⟩) (Kd.S_types HO_6.out BK433.out (by decide)) (fun _ hk => hk.2) (.int .i64 t425)) (fun _ hk => hk.2) (.int .i64 t426)) (fun _ hk => hk.2) (.slice Ao39 t427.length co39)) (fun _ hk => ⟨hk.1.1.1, ⟨hk.1.1.2, hk.1.2⟩⟩)⟩
                have n2_ : Aside0 (Kd.R (Kd.int .u8) 5 (((w34.setCell ⟨gb433, 0, none⟩ (.int .i64 t425)).setCell ⟨gb433, 1, none⟩ (.int .i64 t426)).setCell ⟨gb433, 2, none⟩ (.slice Ao39 t427.length co39)) w.heap.size (fun k_ => some k_ ≠ (.slice Ao32 t421.length co32 : Value).ownBlock ∧ some k_ ≠ (.slice Ao39 t427.length co39 : Value).ownBlock) (.slice A417_2 ((rd_T48 t413 x7_1).f0.f2).length c417_2) ((rd_T48 t413 x7_1).f0.f2)) := ⟨rU (Kd.R_mono (Kd.R_far (p := ⟨gb433, 2, none⟩) (Kd.R_far (p := ⟨gb433, 1, none⟩) (Kd.R_far (p := ⟨gb433, 0, none⟩) (Kd.R_types HO_419002.out BK433.out (by decide)) (fun _ hk => hk.2) (.int .i64 t425)) (fun _ hk => hk.2) (.int .i64 t426)) (fun _ hk => hk.2) (.slice Ao39 t427.length co39)) (fun _ hk => ⟨hk.1.1.2, hk.1.2⟩))⟩
                have n3_ : Aside0 (Kd.R (Kd.int .u8) 5 (((w34.setCell ⟨gb433, 0, none⟩ (.int .i64 t425)).setCell ⟨gb433, 1, none⟩ (.int .i64 t426)).setCell ⟨gb433, 2, none⟩ (.slice Ao39 t427.length co39)) w.heap.size (fun k_ => some k_ ≠ (.slice A417_2 ((rd_T48 t413 x7_1).f0.f2).length c417_2 : Value).ownBlock ∧ some k_ ≠ (.slice Ao39 t427.length co39 : Value).ownBlock) (.slice Ao32 t421.length co32) t421) := ⟨rU (Kd.R_mono (Kd.R_far (p := ⟨gb433, 2, none⟩) (Kd.R_far (p := ⟨gb433, 1, none⟩) (Kd.R_far (p := ⟨gb433, 0, none⟩) (Kd.R_types HO423.out BK433.out (by decide)) (fun _ hk => hk.2) (.int .i64 t425)) (fun _ hk => hk.2) (.int .i64 t426)) (fun _ hk => hk.2) (.slice Ao39 t427.length co39)) (fun _ hk => ⟨hk.1.1.2, hk.1.2⟩))⟩
                have n4_ : Aside0 (Kd.R (Kd.int .u8) 5 (((w34.setCell ⟨gb433, 0, none⟩ (.int .i64 t425)).setCell ⟨gb433, 1, none⟩ (.int .i64 t426)).setCell ⟨gb433, 2, none⟩ (.slice Ao39 t427.length co39)) w.heap.size (fun k_ => some k_ ≠ (.slice A417_2 ((rd_T48 t413 x7_1).f0.f2).length c417_2 : Value).ownBlock ∧ some k_ ≠ (.slice Ao32 t421.length co32 : Value).ownBlock) (.slice Ao39 t427.length co39) t427) := ⟨rU (Kd.R_mono (Kd.R_far (p := ⟨gb433, 2, none⟩) (Kd.R_far (p := ⟨gb433, 1, none⟩) (Kd.R_far (p := ⟨gb433, 0, none⟩) (Kd.R_types HO429.out BK433.out (by decide)) (fun _ hk => hk.2) (.int .i64 t425)) (fun _ hk => hk.2) (.int .i64 t426)) (fun _ hk => hk.2) (.slice Ao39 t427.length co39)) (fun _ hk => ⟨hk.1.1.2, hk.1.2⟩))⟩
                have n5_ : Aside0 ((((w34.setCell ⟨gb433, 0, none⟩ (.int .i64 t425)).setCell ⟨gb433, 1, none⟩ (.int .i64 t426)).setCell ⟨gb433, 2, none⟩ (.slice Ao39 t427.length co39)).heap[gb412]? = some (.cells #[.int .i64 a0_0, .int .i64 a0_1, .slice A0_2 l0_2.length c0_2] 24 (0, 0))) := ⟨by (with_reducible repeat (first | refine blk_drewN ?_ _ | refine blk_drew ?_ | refine blk_alloc ?_ _)); refine blk_far ?_ NB412_433.out _; (with_reducible repeat (first | refine blk_drewN ?_ _ | refine blk_drew ?_ | refine blk_alloc ?_ _)); refine blk_far ?_ NB412_433.out _; (with_reducible repeat (first | refine blk_drewN ?_ _ | refine blk_drew ?_ | refine blk_alloc ?_ _)); refine blk_far ?_ NB412_433.out _; (with_reducible repeat (first | refine blk_drewN ?_ _ | refine blk_drew ?_ | refine blk_alloc ?_ _)); exact BK412.out⟩
                have n6_ : Aside0 ((((w34.setCell ⟨gb433, 0, none⟩ (.int .i64 t425)).setCell ⟨gb433, 1, none⟩ (.int .i64 t426)).setCell ⟨gb433, 2, none⟩ (.slice Ao39 t427.length co39)).heap[gb418]? = some (.cells #[.int .i64 ((rd_T48 t413 x7_1).f0.f0), .int .i64 ((rd_T48 t413 x7_1).f0.f1), .slice A417_2 ((rd_T48 t413 x7_1).f0.f2).length c417_2] 24 (0, 0))) := ⟨by (with_reducible repeat (first | refine blk_drewN ?_ _ | refine blk_drew ?_ | refine blk_alloc ?_ _)); refine blk_far ?_ NB418_433.out _; (with_reducible repeat (first | refine blk_drewN ?_ _ | refine blk_drew ?_ | refine blk_alloc ?_ _)); refine blk_far ?_ NB418_433.out _; (with_reducible repeat (first | refine blk_drewN ?_ _ | refine blk_drew ?_ | refine blk_alloc ?_ _)); refine blk_far ?_ NB418_433.out _; (with_reducible repeat (first | refine blk_drewN ?_ _ | refine blk_drew ?_ | refine blk_alloc ?_ _)); exact BK418.out⟩
                have n7_ : Aside0 ((((w34.setCell ⟨gb433, 0, none⟩ (.int .i64 t425)).setCell ⟨gb433, 1, none⟩ (.int .i64 t426)).setCell ⟨gb433, 2, none⟩ (.slice Ao39 t427.length co39)).heap[gb424]? = some (.cells #[.int .i64 t419, .int .i64 t420, .slice Ao32 t421.length co32] 24 (0, 0))) := ⟨by (with_reducible repeat (first | refine blk_drewN ?_ _ | refine blk_drew ?_ | refine blk_alloc ?_ _)); refine blk_far ?_ NB424_433.out _; (with_reducible repeat (first | refine blk_drewN ?_ _ | refine blk_drew ?_ | refine blk_alloc ?_ _)); refine blk_far ?_ NB424_433.out _; (with_reducible repeat (first | refine blk_drewN ?_ _ | refine blk_drew ?_ | refine blk_alloc ?_ _)); refine blk_far ?_ NB424_433.out _; (with_reducible repeat (first | refine blk_drewN ?_ _ | refine blk_drew ?_ | refine blk_alloc ?_ _)); exact BK424.out⟩
                have n8_ : Aside0 ((((w34.setCell ⟨gb433, 0, none⟩ (.int .i64 t425)).setCell ⟨gb433, 1, none⟩ (.int .i64 t426)).setCell ⟨gb433, 2, none⟩ (.slice Ao39 t427.length co39)).heap[gb433]? = some (.cells #[.int .i64 t425, .int .i64 t426, .slice Ao39 t427.length co39] 24 (0, 0))) := ⟨by (with_reducible repeat (first | refine blk_drewN ?_ _ | refine blk_drew ?_ | refine blk_alloc ?_ _)); refine blk_put (cs := #[.int .i64 t425, .int .i64 t426, .slice none 0 0]) ?_ 2 _ rfl; (with_reducible repeat (first | refine blk_drewN ?_ _ | refine blk_drew ?_ | refine blk_alloc ?_ _)); refine blk_put (cs := #[.int .i64 t425, .int .i64 0, .slice none 0 0]) ?_ 1 _ rfl; (with_reducible repeat (first | refine blk_drewN ?_ _ | refine blk_drew ?_ | refine blk_alloc ?_ _)); refine blk_put (cs := #[.int .i64 0, .int .i64 0, .slice none 0 0]) ?_ 0 _ rfl; (with_reducible repeat (first | refine blk_drewN ?_ _ | refine blk_drew ?_ | refine blk_alloc ?_ _)); exact BK433.out⟩
                have n9_ : Aside0 (Below w.heap.size w (((w34.setCell ⟨gb433, 0, none⟩ (.int .i64 t425)).setCell ⟨gb433, 1, none⟩ (.int .i64 t426)).setCell ⟨gb433, 2, none⟩ (.slice Ao39 t427.length co39))) := ⟨bl⟩
                (try clear HO_4)
                (try clear HO_6)
                (try clear HO_419002)
                (try clear HO423)
                (try clear HO429)
                (try clear BK412)
                (try clear BK418)
                (try clear BK424)
                (try clear BK433)
                (try clear HB)
                generalize (((w34.setCell ⟨gb433, 0, none⟩ (.int .i64 t425)).setCell ⟨gb433, 1, none⟩ (.int .i64 t426)).setCell ⟨gb433, 2, none⟩ (.slice Ao39 t427.length co39)) = w40 at n0_ n1_ n2_ n3_ n4_ n5_ n6_ n7_ n8_ n9_ ⊢
                have HO_4 := n0_
                have HO_6 := n1_
                have HO_419002 := n2_
                have HO423 := n3_
                have HO429 := n4_
                have BK412 := n5_
                have BK418 := n6_
                have BK424 := n7_
                have BK433 := n8_
                have HB := n9_
                clear n0_ n1_ n2_ n3_ n4_ n5_ n6_ n7_ n8_ n9_
                have n_ := aC (Kd.S_drew HO_4.out) (aC (Kd.S_drew HO_6.out) (aC (Kd.R_drew HO_419002.out) (aC (Kd.R_drew HO423.out) (aC (Kd.R_drew HO429.out) (aC (blk_drew BK412.out) (aC (blk_drew BK418.out) (aC (blk_drew BK424.out) (aC (blk_drew BK433.out) (aE (below_drew1 HB.out))))))))))
                clear HO_4 HO_6 HO_419002 HO423 HO429 BK412 BK418 BK424 BK433 HB
                obtain ⟨HO_4, HO_6, HO_419002, HO423, HO429, BK412, BK418, BK424, BK433, HB⟩ := n_
                have p434 : 0 ≤ (x7_1 : Int) := dt
                have q434 : x7_1 < (t413.length : Int) := dt
                obtain ⟨ad434, A434_2, c434_2, e434, hx434_0, hx434_1, hx434_2, hx434_3, hx434_4, hl434_2, hi434_2⟩ := at_T48 (Kd.S_reads' HO_4.out).2.2 x7_1 p434 q434
                obtain rfl : ad417 = ad434 := (by injection e434)
                obtain ⟨ce434, hce434, hMe434, hcc434⟩ := Kd.S_get HO_4.out z48 x7_1 p434 (by first | exact q434 | exact dt | (have e_ := (Kd.S_reads' HO_4.out).1; omega))
                obtain ⟨ve434_2, rfl, ge434_2⟩ := k48_openM hMe434
                have hv434_2 := hcc434 2 _ rfl
                rw [add_field _ _ 2 (by omega)] at hv434_2
                replace hv434_2 := Option.some.inj (hv434_2.symm.trans hx434_2)
                rw [hv434_2] at ge434_2
                have HL434_2 := Aside0.mk (show Kd.R (Kd.int .u8) 5 _ _ _ _ ((rd_T48 t413 x7_1).f0.f2) from ge434_2)
                clear hv434_2 ge434_2
                clear hcc434 hce434
                have HR434_2 := Aside0.mk hi434_2
                have HC434_2 := Aside0.mk hl434_2
                clear hi434_2 hl434_2
                replace p434 := eq_true p434
                replace q434 := eq_true q434
                have p435 : 0 ≤ (x7_1 : Int) := dt
                have q435 : x7_1 < (t413.length : Int) := dt
                obtain ⟨ad435, A435_2, c435_2, e435, hx435_0, hx435_1, hx435_2, hx435_3, hx435_4, hl435_2, hi435_2⟩ := at_T48 (Kd.S_reads' HO_4.out).2.2 x7_1 p435 q435
                obtain rfl : ad417 = ad435 := (by injection e435)
                obtain ⟨ce435, hce435, hMe435, hcc435⟩ := Kd.S_get HO_4.out z48 x7_1 p435 (by first | exact q435 | exact dt | (have e_ := (Kd.S_reads' HO_4.out).1; omega))
                obtain ⟨ve435_2, rfl, ge435_2⟩ := k48_openM hMe435
                have hv435_2 := hcc435 2 _ rfl
                rw [add_field _ _ 2 (by omega)] at hv435_2
                replace hv435_2 := Option.some.inj (hv435_2.symm.trans hx435_2)
                rw [hv435_2] at ge435_2
                have HL435_2 := Aside0.mk (show Kd.R (Kd.int .u8) 5 _ _ _ _ ((rd_T48 t413 x7_1).f0.f2) from ge435_2)
                clear hv435_2 ge435_2
                clear hcc435 hce435
                have HR435_2 := Aside0.mk hi435_2
                have HC435_2 := Aside0.mk hl435_2
                clear hi435_2 hl435_2
                replace p435 := eq_true p435
                replace q435 := eq_true q435
                have ea_ := Option.some.inj (hx434_2.symm.trans hx435_2)
                injection ea_ with ea_ en_ ec_
                subst ea_
                subst ec_
                clear en_
                refine st 24 (fun w' => w'.cell? ⟨gb433, 0, none⟩ = some (.int .i64 t425) ∧ w'.cell? ⟨gb433, 1, none⟩ = some (.int .i64 t426) ∧ w'.cell? ⟨gb433, 2, none⟩ = some (.slice Ao39 t427.length co39) ∧ w'.cell? (ad417.add ((x7_1).toNat * 5)) = some (.int .i64 ((rd_T48 t413 x7_1).f0.f0)) ∧ w'.cell? ⟨(ad417.add ((x7_1).toNat * 5)).block, (ad417.add ((x7_1).toNat * 5)).off + 1, none⟩ = some (.int .i64 ((rd_T48 t413 x7_1).f0.f1)) ∧ w'.cell? ⟨(ad417.add ((x7_1).toNat * 5)).block, (ad417.add ((x7_1).toNat * 5)).off + 2, none⟩ = some (.slice A434_2 ((rd_T48 t413 x7_1).f0.f2).length c434_2) ∧ w'.cell? ⟨(ad417.add ((x7_1).toNat * 5)).block, (ad417.add ((x7_1).toNat * 5)).off + 3, none⟩ = some (.int .i64 ((rd_T48 t413 x7_1).f1)) ∧ w'.cell? ⟨(ad417.add ((x7_1).toNat * 5)).block, (ad417.add ((x7_1).toNat * 5)).off + 4, none⟩ = some (.int .i64 ((rd_T48 t413 x7_1).f2)) ∧ w'.cell? (ad417.add ((x7_1).toNat * 5)) = some (.int .i64 ((rd_T48 t413 x7_1).f0.f0)) ∧ w'.cell? ⟨(ad417.add ((x7_1).toNat * 5)).block, (ad417.add ((x7_1).toNat * 5)).off + 1, none⟩ = some (.int .i64 ((rd_T48 t413 x7_1).f0.f1)) ∧ w'.cell? ⟨(ad417.add ((x7_1).toNat * 5)).block, (ad417.add ((x7_1).toNat * 5)).off + 2, none⟩ = some (.slice A434_2 ((rd_T48 t413 x7_1).f0.f2).length c434_2) ∧ w'.cell? ⟨(ad417.add ((x7_1).toNat * 5)).block, (ad417.add ((x7_1).toNat * 5)).off + 3, none⟩ = some (.int .i64 ((rd_T48 t413 x7_1).f1)) ∧ w'.cell? ⟨(ad417.add ((x7_1).toNat * 5)).block, (ad417.add ((x7_1).toNat * 5)).off + 4, none⟩ = some (.int .i64 ((rd_T48 t413 x7_1).f2))) [21, 22] (bv 24 0) incunableref15_Pieces.tab18 incunableref15_Pieces.bits18 ⟨kc0 BK433.out, kc1 BK433.out, kc2 BK433.out, hx434_0, hx434_1, hx434_2, hx434_3, hx434_4, hx435_0, hx435_1, hx435_2, hx435_3, hx435_4⟩ (fun hHeld HT_ HW_ => ?_)
                generalize w40.drew = w41 at HO_4 HO_6 HO_419002 HO423 HO429 BK412 BK418 BK424 BK433 HB HL434_2 HL435_2 HR434_2 HR435_2 hx434_0 hx434_1 hx434_2 hx434_3 hx434_4 hx435_0 hx435_1 hx435_2 hx435_3 hx435_4 hHeld ⊢
                refine pu 0 71 (bv 24 1) HT_ rfl rfl ?_
                refine pu 2 73 (bv 24 5) HT_ rfl rfl ?_
                refine pu 3 74 (bv 24 13) HT_ rfl rfl ?_
                refine pu 4 75 (bv 24 29) HT_ rfl rfl ?_
                refine pu 5 76 (bv 24 61) HT_ rfl rfl ?_
                refine pu 7 78 (bv 24 189) HT_ rfl rfl ?_
                refine pu 9 80 (bv 24 701) HT_ rfl rfl ?_
                refine pu 11 82 (bv 24 2749) HT_ rfl rfl ?_
                refine pu 12 83 (bv 24 6845) HT_ rfl rfl ?_
                refine pu 13 84 (bv 24 15037) HT_ rfl rfl ?_
                refine pu 14 85 (bv 24 31421) HT_ rfl rfl ?_
                refine pu 16 87 (bv 24 96957) HT_ rfl rfl ?_
                refine pu 18 89 (bv 24 359101) HT_ rfl rfl ?_
                refine tk 1 72 (bv 24 359103) HT_ HW_ hHeld rfl rfl (by rintro w' ⟨s0, s1, s2, s3, s4, s5, s6, s7, s8, s9, s10, s11, s12⟩; exact yl) ?_
                refine tk 6 77 (bv 24 359167) HT_ HW_ hHeld rfl rfl (by rintro w' ⟨s0, s1, s2, s3, s4, s5, s6, s7, s8, s9, s10, s11, s12⟩; exact yl) ?_
                refine pu 8 79 (bv 24 359423) HT_ rfl rfl ?_
                refine pu 10 81 (bv 24 360447) HT_ rfl rfl ?_
                refine tk 15 86 (bv 24 393215) HT_ HW_ hHeld rfl rfl (by rintro w' ⟨s0, s1, s2, s3, s4, s5, s6, s7, s8, s9, s10, s11, s12⟩; exact yl) ?_
                refine pu 17 88 (bv 24 524287) HT_ rfl rfl ?_
                refine pu 19 90 (bv 24 1048575) HT_ rfl rfl ?_
                refine pu 20 91 (bv 24 2097151) HT_ rfl rfl ?_
                refine last_ (i := 21) (N := some 92) (bv 24 4194303) rfl rfl (one_of HT_.out (by kernel_rfl)) (by decide) (fun K hK => ?_)
                refine value_ (w1 := ?_) (v := ?_) (by rfl) rfl ?_ ?_
                rotate_left 2
                ·go_simp
                 constructor
                 ·rfl
                 ·rfl
                refine hK.out _ _ ?_
                clear hK K
                refine nm (some 92) ?_
                refine last_ (i := 22) (N := some 93) (bv 24 8388607) rfl rfl (one_of HT_.out (by kernel_rfl)) (by decide) (fun K hK => ?_)
                refine Kd.S_append_step k48 (w0 := w) w.heap.size (by rfl) (.tmp 71) (.tmp 92) 40 48 (.agg #[(.int .i64 0), (.int .i64 0), (.slice none 0 0), (.int .i64 0), (.int .i64 0)]) 56 rfl Try.underlying40 info48 rfl (by decide) (by omega) u6 x6_3 (⟨(⟨t425, t426, t427⟩ : S24), wrap64 ((wrap64 (((rd_T48 t413 x7_1).f1) + x10_3)) + t430), wrap64 ((wrap64 (((rd_T48 t413 x7_1).f2) + x9_2)) + t431)⟩ : S48) [.int .i64 t425, .int .i64 t426, .slice Ao39 t427.length co39, .int .i64 (wrap64 ((wrap64 (((rd_T48 t413 x7_1).f1) + x10_3)) + t430)), .int .i64 (wrap64 ((wrap64 (((rd_T48 t413 x7_1).f2) + x9_2)) + t431))] (fun k_ => some k_ ≠ (.slice (some ad417) t413.length co9 : Value).ownBlock ∧ some k_ ≠ (.slice Ao32 t421.length co32 : Value).ownBlock) (fun k_ => some k_ = (.slice Ao39 t427.length co39 : Value).ownBlock) rfl rfl ?aP (fun k_ hk_ => ((Kd.R_mono (ok' := fun k_ => ((fun k_ => some k_ ≠ (.slice (some ad417) t413.length co9 : Value).ownBlock ∧ some k_ ≠ (.slice Ao32 t421.length co32 : Value).ownBlock)) k_ ∧ some k_ ≠ (u6 : Value).ownBlock) (Kd.R_apart' (Kd.R_apart' (HO429.out) (Kd.S_typed HO_4.out) (by decide)) (Kd.S_typed HO_6.out) (by decide)) (fun k_ hk => ⟨⟨hk.1.2, hk.1.1.2⟩, hk.2⟩))).1 k_ hk_.symm) ?aF ?aO ?aB ?aS ?aL ?_
                (case aP => exact k48_mkM _ _ _ (⟨(⟨t425, t426, t427⟩ : S24), wrap64 ((wrap64 (((rd_T48 t413 x7_1).f1) + x10_3)) + t430), wrap64 ((wrap64 (((rd_T48 t413 x7_1).f2) + x9_2)) + t431)⟩ : S48) (Kd.R_mono (Kd.R_tight rfl (Kd.R_mono (ok' := fun k_ => ((fun k_ => some k_ ≠ (.slice (some ad417) t413.length co9 : Value).ownBlock ∧ some k_ ≠ (.slice Ao32 t421.length co32 : Value).ownBlock)) k_ ∧ some k_ ≠ (u6 : Value).ownBlock) (Kd.R_apart' (Kd.R_apart' (HO429.out) (Kd.S_typed HO_4.out) (by decide)) (Kd.S_typed HO_6.out) (by decide)) (fun k_ hk => ⟨⟨hk.1.2, hk.1.1.2⟩, hk.2⟩))) (fun _ h_ => h_)))
                (case aB => exact bl)
                (case aF => exact (fun k_ hk => ⟨Kd.fresh' (Kd.S_lt (by (with_reducible repeat (first | apply Kd.S_alloc | apply Kd.S_drewN | apply Kd.S_drew)); exact HO_4.out)) k_ hk, Kd.fresh' (Kd.R_lt (rU HO423.out)) k_ hk⟩))
                (case aO => exact (by (with_reducible repeat (first | apply Kd.S_alloc | apply Kd.S_drewN | apply Kd.S_drew)); exact Kd.S_mono HO_6.out (fun k_ hk => ⟨⟨hk.1, hk.2.1⟩, fun e_ => hk.2.2 e_⟩)))
                (case aS => exact bz)
                (case aL => have := LMc24.out; omega)
                intro v437 w42 ho hb hg hat
                rw [← Ny436.out] at ho
                have n_ := aC (Kd.S_after (ok := (fun k_ => some k_ ≠ (.slice Ao32 t421.length co32 : Value).ownBlock ∧ some k_ ≠ (.slice Ao39 t427.length co39 : Value).ownBlock)) (by (with_reducible repeat (first | apply Kd.S_alloc | apply Kd.S_drewN | apply Kd.S_drew)); exact Kd.S_mono HO_4.out (fun _ hk => ⟨⟨hk.2.1, hk.2.2⟩, hk.1⟩)) hg hat) (aC (Kd.R_over' (rU HO_419002.out) (Kd.S_typed (by (with_reducible repeat (first | apply Kd.S_alloc | apply Kd.S_drewN | apply Kd.S_drew)); exact HO_6.out)) (by decide) hg) (aC (blk_grown (bU BK412.out) hg (Kd.S_ne HO_6.out BK412.out (by decide))) (aC (blk_grown (g := gb418) (o := .cells #[.int .i64 ((rd_T48 t413 x7_1).f0.f0), .int .i64 ((rd_T48 t413 x7_1).f0.f1), .slice A417_2 ((rd_T48 t413 x7_1).f0.f2).length c417_2] 24 (0, 0)) (bU BK418.out) hg (Kd.S_ne HO_6.out BK418.out (by decide))) (aC (Kd.R_over' (rU HO423.out) (Kd.S_typed (by (with_reducible repeat (first | apply Kd.S_alloc | apply Kd.S_drewN | apply Kd.S_drew)); exact HO_6.out)) (by decide) hg) (aC (blk_grown (bU BK424.out) hg (Kd.S_ne HO_6.out BK424.out (by decide))) (aC (blk_grown (bU BK433.out) hg (Kd.S_ne HO_6.out BK433.out (by decide))) (aC (Kd.R_after (ok := (fun k_ => some k_ ≠ (.slice (some ad417) t413.length co9 : Value).ownBlock ∧ some k_ ≠ (.slice Ao32 t421.length co32 : Value).ownBlock ∧ some k_ ≠ (.slice Ao39 t427.length co39 : Value).ownBlock)) (rU (Kd.R_mono HL434_2.out (fun _ hk => ⟨⟨hk.2, ⟨hk.1.2.1, hk.1.2.2⟩⟩, hk.1.1⟩))) hg hat) (aC (Kd.R_after (ok := (fun k_ => some k_ ≠ (.slice (some ad417) t413.length co9 : Value).ownBlock ∧ some k_ ≠ (.slice Ao32 t421.length co32 : Value).ownBlock ∧ some k_ ≠ (.slice Ao39 t427.length co39 : Value).ownBlock)) (rU (Kd.R_mono HL435_2.out (fun _ hk => ⟨⟨hk.2, ⟨hk.1.2.1, hk.1.2.2⟩⟩, hk.1.1⟩))) hg hat) (aC hb (aE ho))))))))))
                clear HO_4 HO_419002 BK412 BK418 HO423 BK424 BK433 HL434_2 HL435_2 HB HO_6 HO429
                obtain ⟨HO_4, HO_419002, BK412, BK418, HO423, BK424, BK433, HL434_2, HL435_2, HB, HO438⟩ := n_
                clear ho hb hg hat
                refine hK.out _ _ ?_
                clear hK K
                refine nm (some 93) ?_
                refine pu 23 6 (bv 24 16777215) HT_ rfl rfl ?_
                refine done_ (done_of HT_.out (by kernel_rfl)) ?_
                try go_wp2
                go_roundg k3
                case measure => have := HK1.out; have := HK2.out; have := HK3.out; omega
                case rel => exact ⟨(y436), (wrap64 (x10_3 + 40)), rq, H', ⟨by have := HK1.out; have := HK2.out; have := HK3.out; omega⟩, ⟨by (with_reducible repeat (first | apply Kd.S_alloc | apply Kd.S_drewN | apply Kd.S_drew)); exact Kd.S_mono HO_4.out (fun _ hk => hk.2)⟩, ⟨by (with_reducible repeat (first | apply Kd.S_alloc | apply Kd.S_drewN | apply Kd.S_drew)); exact Kd.S_mono HO438.out (fun _ hk => hk.1)⟩, ⟨rU (Kd.R_mono HO_419002.out (fun _ hk => trivial))⟩, ⟨bU BK412.out⟩, ⟨bU BK418.out⟩, ⟨bl⟩⟩
               ·rw [if_neg c24] at H
                exact absurd H (by simp)
              ·rw [if_neg c23] at H
               exact absurd H (by simp)
             ·rw [if_neg c22] at H
              exact absurd H (by simp)
            ·rw [if_neg c21] at H
             have c21b0 := decide_eq_false c21
             clear c21
             have H' := Aside0.mk H
             clear H
             have hnb43 := NB418_412.out
             have hnc43 := NB412_418.out
             obtain ⟨hcz44_0, hcz44_1, hcz44_2, hfz44_0, hfz44_1, hfz44_2⟩ := cz3f BK418.out
             go_wp2_with (first | ((with_reducible refine gf 65 rfl ?_); refine goesL_ (some 60) rfl rfl Try.func65 (by kernel_rfl) rfl #[.agg #[.int .i64 ((rd_T48 t413 x7_1).f0.f0), .int .i64 ((rd_T48 t413 x7_1).f0.f1), .slice A417_2 ((rd_T48 t413 x7_1).f0.f2).length c417_2], .int .i64 x10_3, .int .i64 x9_2, .int .i64 ji17, .int .i64 ji18] rfl (by (try simp only [List.map_toArray, List.map_cons, List.map_nil]); first | done | (simp only [hji17, hji18]; rfl) | rfl | (simp only [List.length_drop, List.length_take]; rfl)) ?_; (with_reducible refine (incunableref05_Part.calls k3 ((rd_T48 t413 x7_1).f0.f0) ((rd_T48 t413 x7_1).f0.f1) _ _ ((rd_T48 t413 x7_1).f0.f2) x10_3 x9_2 ji17 ji18 t419 t420 t421 _ ?side1 ?side2 A19.out).mono ?_); (case side1 => exact cU (Kd.R_reads' HO_419002.out).2.2); (case side2 => exact (Kd.R_reads' HO_419002.out).2.1); rintro e w45 ⟨v422, rfl, ho0, hb⟩; refine ⟨_, rfl, ?_⟩; have n_ := aC (Kd.S_elder' (by (with_reducible repeat (first | apply Kd.S_alloc | apply Kd.S_drewN | apply Kd.S_drew)); exact HO_4.out) (Kd.R_base ho0) hb) (aC (Kd.S_elder' (by (with_reducible repeat (first | apply Kd.S_alloc | apply Kd.S_drewN | apply Kd.S_drew)); exact HO_6.out) (Kd.R_base ho0) hb) (aC (Kd.R_elder' (rU HO_419002.out) (Kd.R_base ho0) hb) (aC (Kd.R_lower (Kd.R_new' ho0 (Kd.R_lt (rU HO_419002.out))) bz) (aC (blk_below (bU BK412.out) hb) (aC (blk_below (g := gb418) (o := .cells #[.int .i64 ((rd_T48 t413 x7_1).f0.f0), .int .i64 ((rd_T48 t413 x7_1).f0.f1), .slice A417_2 ((rd_T48 t413 x7_1).f0.f2).length c417_2] 24 (0, 0)) (bU BK418.out) hb) (aE (bs hb))))))); clear HO_4 HO_6 HO_419002 BK412 BK418 HB; obtain ⟨HO_4, HO_6, HO_419002, HO423, BK412, BK418, HB⟩ := n_; (try clear hb); (try clear ho0)) | ((with_reducible refine gd 11 rfl ?_); refine bx 11 #[.int .i64 0, .int .i64 0, .slice none 0 0] 24 rfl rfl ?_; intro gb424 hg w46 hbox hb; have n_ := aC (Kd.S_below (by (with_reducible repeat (first | apply Kd.S_alloc | apply Kd.S_drewN | apply Kd.S_drew)); exact HO_4.out) hb) (aC (Kd.S_below (by (with_reducible repeat (first | apply Kd.S_alloc | apply Kd.S_drewN | apply Kd.S_drew)); exact HO_6.out) hb) (aC (Kd.R_below (rU HO_419002.out) hb) (aC (Kd.R_below (rU HO423.out) hb) (aC (blk_below (bU BK412.out) hb) (aC (blk_below (g := gb418) (o := .cells #[.int .i64 ((rd_T48 t413 x7_1).f0.f0), .int .i64 ((rd_T48 t413 x7_1).f0.f1), .slice A417_2 ((rd_T48 t413 x7_1).f0.f2).length c417_2] 24 (0, 0)) (bU BK418.out) hb) (aC (bs hb) (aC hbox (aC (gz hg) (aC (gz hg) (aC (gn hg (bU BK412.out)) (aC (gm hg (bU BK412.out)) (aC ((by rw [hg]; exact Nat.ne_of_lt (blk_lt (g := gb418) (o := .cells #[.int .i64 ((rd_T48 t413 x7_1).f0.f0), .int .i64 ((rd_T48 t413 x7_1).f0.f1), .slice A417_2 ((rd_T48 t413 x7_1).f0.f2).length c417_2] 24 (0, 0)) (bU BK418.out)) : gb418 ≠ gb424)) (aE ((by rw [hg]; exact Nat.ne_of_gt (blk_lt (g := gb418) (o := .cells #[.int .i64 ((rd_T48 t413 x7_1).f0.f0), .int .i64 ((rd_T48 t413 x7_1).f0.f1), .slice A417_2 ((rd_T48 t413 x7_1).f0.f2).length c417_2] 24 (0, 0)) (bU BK418.out)) : gb424 ≠ gb418))))))))))))))); clear HO_4 HO_6 HO_419002 HO423 BK412 BK418 HB; obtain ⟨HO_4, HO_6, HO_419002, HO423, BK412, BK418, HB, BK424, GW424, GE424, NB412_424, NB424_412, NB418_424, NB424_418⟩ := n_; clear hb hbox hg; have hnb47 := NB424_412.out; have hnc47 := NB412_424.out; have hnb48 := NB424_418.out; have hnc48 := NB418_424.out; obtain ⟨hcz49_0, hcz49_1, hcz49_2, hfz49_0, hfz49_1, hfz49_2⟩ := cz3f BK424.out; obtain ⟨Ao50, co50, eo50⟩ := Kd.R_slice HO423.out; subst eo50) | ((with_reducible refine gf 34 rfl ?_); refine gL (some 63) rfl rfl Try.func34 rfl #[.agg #[.int .i64 t419, .int .i64 t420, .slice Ao50 t421.length co50]] rfl ?_; (with_reducible refine (incunableref05_Trim.calls k3 t419 t420 _ _ t421 t425 t426 t427 t430 t431 t432 _ ?side1 ?side2 A20.out).mono ?_); (case side1 => refine (Kd.R_reads' (e := 5) (base := w.heap.size) (ok := fun k_ => (True ∧ some k_ ≠ (.slice A417_2 ((rd_T48 t413 x7_1).f0.f2).length c417_2 : Value).ownBlock)) (n := t421.length) (c := co50) ?_).2.2; exact (rU (Kd.R_mono (Kd.R_far (p := ⟨gb424, 2, none⟩) (Kd.R_far (p := ⟨gb424, 1, none⟩) (Kd.R_far (p := ⟨gb424, 0, none⟩) (Kd.R_types HO423.out BK424.out (by decide)) (fun _ hk => hk.2) (.int .i64 t419)) (fun _ hk => hk.2) (.int .i64 t420)) (fun _ hk => hk.2) (.slice Ao50 t421.length co50)) (fun _ h_ => h_.1)))); (case side2 => exact (Kd.R_reads' HO423.out).2.1); rintro e w51 ⟨v428, rfl, ho0, hb⟩; refine ⟨_, rfl, ?_⟩; have n_ := aC (Kd.S_elder' (by (with_reducible repeat (first | apply Kd.S_alloc | apply Kd.S_drewN | apply Kd.S_drew)); exact (Kd.S_mono (Kd.S_far (p := ⟨gb424, 2, none⟩) (Kd.S_far (p := ⟨gb424, 1, none⟩) (Kd.S_far (p := ⟨gb424, 0, none⟩) (Kd.S_types HO_4.out BK424.out (by decide)) (fun _ hk => hk.2) (.int .i64 t419)) (fun _ hk => hk.2) (.int .i64 t420)) (fun _ hk => hk.2) (.slice Ao50 t421.length co50)) (fun _ h_ => h_.1))) (Kd.R_base ho0) hb) (aC (Kd.S_elder' (by (with_reducible repeat (first | apply Kd.S_alloc | apply Kd.S_drewN | apply Kd.S_drew)); exact (Kd.S_mono (Kd.S_far (p := ⟨gb424, 2, none⟩) (Kd.S_far (p := ⟨gb424, 1, none⟩) (Kd.S_far (p := ⟨gb424, 0, none⟩) (Kd.S_types HO_6.out BK424.out (by decide)) (fun _ hk => hk.2) (.int .i64 t419)) (fun _ hk => hk.2) (.int .i64 t420)) (fun _ hk => hk.2) (.slice Ao50 t421.length co50)) (fun _ h_ => h_.1))) (Kd.R_base ho0) hb) (aC (Kd.R_elder' (rU (Kd.R_mono (Kd.R_far (p := ⟨gb424, 2, none⟩) (Kd.R_far (p := ⟨gb424, 1, none⟩) (Kd.R_far (p := ⟨gb424, 0, none⟩) (Kd.R_types HO_419002.out BK424.out (by decide)) (fun _ hk => hk.2) (.int .i64 t419)) (fun _ hk => hk.2) (.int .i64 t420)) (fun _ hk => hk.2) (.slice Ao50 t421.length co50)) (fun _ h_ => h_.1))) (Kd.R_base ho0) hb) (aC (Kd.R_elder' (rU (Kd.R_mono (Kd.R_far (p := ⟨gb424, 2, none⟩) (Kd.R_far (p := ⟨gb424, 1, none⟩) (Kd.R_far (p := ⟨gb424, 0, none⟩) (Kd.R_types HO423.out BK424.out (by decide)) (fun _ hk => hk.2) (.int .i64 t419)) (fun _ hk => hk.2) (.int .i64 t420)) (fun _ hk => hk.2) (.slice Ao50 t421.length co50)) (fun _ h_ => h_.1))) (Kd.R_base ho0) hb) (aC (Kd.R_lower (Kd.R_new' (Kd.R_new' ho0 (Kd.R_lt (rU (Kd.R_mono (Kd.R_far (p := ⟨gb424, 2, none⟩) (Kd.R_far (p := ⟨gb424, 1, none⟩) (Kd.R_far (p := ⟨gb424, 0, none⟩) (Kd.R_types HO_419002.out BK424.out (by decide)) (fun _ hk => hk.2) (.int .i64 t419)) (fun _ hk => hk.2) (.int .i64 t420)) (fun _ hk => hk.2) (.slice Ao50 t421.length co50)) (fun _ h_ => h_.1))))) (Kd.R_lt (rU (Kd.R_mono (Kd.R_far (p := ⟨gb424, 2, none⟩) (Kd.R_far (p := ⟨gb424, 1, none⟩) (Kd.R_far (p := ⟨gb424, 0, none⟩) (Kd.R_types HO423.out BK424.out (by decide)) (fun _ hk => hk.2) (.int .i64 t419)) (fun _ hk => hk.2) (.int .i64 t420)) (fun _ hk => hk.2) (.slice Ao50 t421.length co50)) (fun _ h_ => h_.1))))) bz) (aC (blk_below (g := gb412) (o := .cells #[.int .i64 a0_0, .int .i64 a0_1, .slice A0_2 l0_2.length c0_2] 24 (0, 0)) (by (with_reducible repeat (first | refine blk_drewN ?_ _ | refine blk_drew ?_ | refine blk_alloc ?_ _)); refine blk_far ?_ NB412_424.out _; (with_reducible repeat (first | refine blk_drewN ?_ _ | refine blk_drew ?_ | refine blk_alloc ?_ _)); refine blk_far ?_ NB412_424.out _; (with_reducible repeat (first | refine blk_drewN ?_ _ | refine blk_drew ?_ | refine blk_alloc ?_ _)); refine blk_far ?_ NB412_424.out _; (with_reducible repeat (first | refine blk_drewN ?_ _ | refine blk_drew ?_ | refine blk_alloc ?_ _)); exact BK412.out) hb) (aC (blk_below (g := gb418) (o := .cells #[.int .i64 ((rd_T48 t413 x7_1).f0.f0), .int .i64 ((rd_T48 t413 x7_1).f0.f1), .slice A417_2 ((rd_T48 t413 x7_1).f0.f2).length c417_2] 24 (0, 0)) (by (with_reducible repeat (first | refine blk_drewN ?_ _ | refine blk_drew ?_ | refine blk_alloc ?_ _)); refine blk_far ?_ NB418_424.out _; (with_reducible repeat (first | refine blk_drewN ?_ _ | refine blk_drew ?_ | refine blk_alloc ?_ _)); refine blk_far ?_ NB418_424.out _; (with_reducible repeat (first | refine blk_drewN ?_ _ | refine blk_drew ?_ | refine blk_alloc ?_ _)); refine blk_far ?_ NB418_424.out _; (with_reducible repeat (first | refine blk_drewN ?_ _ | refine blk_drew ?_ | refine blk_alloc ?_ _)); exact BK418.out) hb) (aC (blk_below (g := gb424) (o := .cells #[.int .i64 t419, .int .i64 t420, .slice Ao50 t421.length co50] 24 (0, 0)) (by (with_reducible repeat (first | refine blk_drewN ?_ _ | refine blk_drew ?_ | refine blk_alloc ?_ _)); refine blk_put (cs := #[.int .i64 t419, .int .i64 t420, .slice none 0 0]) ?_ 2 _ rfl; (with_reducible repeat (first | refine blk_drewN ?_ _ | refine blk_drew ?_ | refine blk_alloc ?_ _)); refine blk_put (cs := #[.int .i64 t419, .int .i64 0, .slice none 0 0]) ?_ 1 _ rfl; (with_reducible repeat (first | refine blk_drewN ?_ _ | refine blk_drew ?_ | refine blk_alloc ?_ _)); refine blk_put (cs := #[.int .i64 0, .int .i64 0, .slice none 0 0]) ?_ 0 _ rfl; (with_reducible repeat (first | refine blk_drewN ?_ _ | refine blk_drew ?_ | refine blk_alloc ?_ _)); exact BK424.out) hb) (aE (bs hb))))))))); clear HO_4 HO_6 HO_419002 HO423 BK412 BK418 BK424 HB; obtain ⟨HO_4, HO_6, HO_419002, HO423, HO429, BK412, BK418, BK424, HB⟩ := n_; (try clear hb); (try clear ho0)) | ((with_reducible refine gd 12 rfl ?_); refine bx 12 #[.int .i64 0, .int .i64 0, .slice none 0 0] 24 rfl rfl ?_; intro gb433 hg w52 hbox hb; have n_ := aC (Kd.S_below (by (with_reducible repeat (first | apply Kd.S_alloc | apply Kd.S_drewN | apply Kd.S_drew)); exact HO_4.out) hb) (aC (Kd.S_below (by (with_reducible repeat (first | apply Kd.S_alloc | apply Kd.S_drewN | apply Kd.S_drew)); exact HO_6.out) hb) (aC (Kd.R_below (rU HO_419002.out) hb) (aC (Kd.R_below (rU HO423.out) hb) (aC (Kd.R_below (rU HO429.out) hb) (aC (blk_below (bU BK412.out) hb) (aC (blk_below (g := gb418) (o := .cells #[.int .i64 ((rd_T48 t413 x7_1).f0.f0), .int .i64 ((rd_T48 t413 x7_1).f0.f1), .slice A417_2 ((rd_T48 t413 x7_1).f0.f2).length c417_2] 24 (0, 0)) (bU BK418.out) hb) (aC (blk_below (bU BK424.out) hb) (aC (bs hb) (aC hbox (aC (gz hg) (aC (gz hg) (aC (gn hg (bU BK412.out)) (aC (gm hg (bU BK412.out)) (aC ((by rw [hg]; exact Nat.ne_of_lt (blk_lt (g := gb418) (o := .cells #[.int .i64 ((rd_T48 t413 x7_1).f0.f0), .int .i64 ((rd_T48 t413 x7_1).f0.f1), .slice A417_2 ((rd_T48 t413 x7_1).f0.f2).length c417_2] 24 (0, 0)) (bU BK418.out)) : gb418 ≠ gb433)) (aC ((by rw [hg]; exact Nat.ne_of_gt (blk_lt (g := gb418) (o := .cells #[.int .i64 ((rd_T48 t413 x7_1).f0.f0), .int .i64 ((rd_T48 t413 x7_1).f0.f1), .slice A417_2 ((rd_T48 t413 x7_1).f0.f2).length c417_2] 24 (0, 0)) (bU BK418.out)) : gb433 ≠ gb418)) (aC (gn hg (bU BK424.out)) (aE (gm hg (bU BK424.out))))))))))))))))))); clear HO_4 HO_6 HO_419002 HO423 HO429 BK412 BK418 BK424 HB; obtain ⟨HO_4, HO_6, HO_419002, HO423, HO429, BK412, BK418, BK424, HB, BK433, GW433, GE433, NB412_433, NB433_412, NB418_433, NB433_418, NB424_433, NB433_424⟩ := n_; clear hb hbox hg; have hnb53 := NB433_412.out; have hnc53 := NB412_433.out; have hnb54 := NB433_418.out; have hnc54 := NB418_433.out; have hnb55 := NB433_424.out; have hnc55 := NB424_433.out; obtain ⟨hcz56_0, hcz56_1, hcz56_2, hfz56_0, hfz56_1, hfz56_2⟩ := cz3f BK433.out; obtain ⟨Ao57, co57, eo57⟩ := Kd.R_slice HO429.out; subst eo57))
             go_roundg k3
             case measure => have := HK1.out; have := HK2.out; have := HK3.out; omega
             case rel => exact ⟨(x6_3), (wrap64 (x10_3 + 40)), rq, H', ⟨by have := HK1.out; have := HK2.out; have := HK3.out; omega⟩, ⟨by (with_reducible repeat (first | apply Kd.S_alloc | apply Kd.S_drewN | apply Kd.S_drew)); exact Kd.S_mono (Kd.S_far (p := ⟨gb433, 2, none⟩) (Kd.S_far (p := ⟨gb433, 1, none⟩) (Kd.S_far (p := ⟨gb433, 0, none⟩) (Kd.S_types HO_4.out BK433.out (by decide)) (fun _ hk => hk.2) (.int .i64 t425)) (fun _ hk => hk.2) (.int .i64 t426)) (fun _ hk => hk.2) (.slice Ao57 t427.length co57)) (fun _ hk => hk.1.1.1)⟩, ⟨by (with_reducible repeat (first | apply Kd.S_alloc | apply Kd.S_drewN | apply Kd.S_drew)); exact Kd.S_mono (Kd.S_far (p := ⟨gb433, 2, none⟩) (Kd.S_far (p := ⟨gb433, 1, none⟩) (Kd.S_far (p := ⟨gb433, 0, none⟩) (Kd.S_types HO_6.out BK433.out (by decide)) (fun _ hk => hk.2) (.int .i64 t425)) (fun _ hk => hk.2) (.int .i64 t426)) (fun _ hk => hk.2) (.slice Ao57 t427.length co57)) (fun _ hk => hk.1.1.1)⟩, ⟨rU (Kd.R_mono (Kd.R_far (p := ⟨gb433, 2, none⟩) (Kd.R_far (p := ⟨gb433, 1, none⟩) (Kd.R_far (p := ⟨gb433, 0, none⟩) (Kd.R_types HO_419002.out BK433.out (by decide)) (fun _ hk => hk.2) (.int .i64 t425)) (fun _ hk => hk.2) (.int .i64 t426)) (fun _ hk => hk.2) (.slice Ao57 t427.length co57)) (fun _ hk => trivial))⟩, ⟨by (with_reducible repeat (first | refine blk_drewN ?_ _ | refine blk_drew ?_ | refine blk_alloc ?_ _)); refine blk_far ?_ NB412_433.out _; (with_reducible repeat (first | refine blk_drewN ?_ _ | refine blk_drew ?_ | refine blk_alloc ?_ _)); refine blk_far ?_ NB412_433.out _; (with_reducible repeat (first | refine blk_drewN ?_ _ | refine blk_drew ?_ | refine blk_alloc ?_ _)); refine blk_far ?_ NB412_433.out _; (with_reducible repeat (first | refine blk_drewN ?_ _ | refine blk_drew ?_ | refine blk_alloc ?_ _)); exact BK412.out⟩, ⟨by (with_reducible repeat (first | refine blk_drewN ?_ _ | refine blk_drew ?_ | refine blk_alloc ?_ _)); refine blk_far ?_ NB418_433.out _; (with_reducible repeat (first | refine blk_drewN ?_ _ | refine blk_drew ?_ | refine blk_alloc ?_ _)); refine blk_far ?_ NB418_433.out _; (with_reducible repeat (first | refine blk_drewN ?_ _ | refine blk_drew ?_ | refine blk_alloc ?_ _)); refine blk_far ?_ NB418_433.out _; (with_reducible repeat (first | refine blk_drewN ?_ _ | refine blk_drew ?_ | refine blk_alloc ?_ _)); exact BK418.out⟩, ⟨bl⟩⟩
           ·rw [if_neg c16] at H
            have c16b0 := decide_eq_false c16
            clear c16
            have H' := Aside0.mk H
            clear H
            have hnb58 := NB418_412.out
            have hnc58 := NB412_418.out
            obtain ⟨hcz59_0, hcz59_1, hcz59_2, hfz59_0, hfz59_1, hfz59_2⟩ := cz3f BK418.out
            go_wp2
            go_roundg k3
            case measure => have := HK1.out; have := HK2.out; have := HK3.out; omega
            case rel => exact ⟨(x6_3), (wrap64 (x9_2 + 40)), rq, H', ⟨by have := HK1.out; have := HK2.out; have := HK3.out; omega⟩, ⟨by (with_reducible repeat (first | apply Kd.S_alloc | apply Kd.S_drewN | apply Kd.S_drew)); exact HO_4.out⟩, ⟨by (with_reducible repeat (first | apply Kd.S_alloc | apply Kd.S_drewN | apply Kd.S_drew)); exact HO_6.out⟩, ⟨rU HO_419002.out⟩, ⟨bU BK412.out⟩, ⟨bU BK418.out⟩, ⟨bl⟩⟩
        ·rw [if_neg c13] at H
         have c13b0 := decide_eq_false c13
         clear c13
         have H' := Aside0.mk H
         clear H
         have hnb60 := NB418_412.out
         have hnc60 := NB412_418.out
         obtain ⟨hcz61_0, hcz61_1, hcz61_2, hfz61_0, hfz61_1, hfz61_2⟩ := cz3f BK418.out
         go_wp2
         go_roundg k2
         case measure => have := HK1.out; have := HK2.out; omega
         case rel => exact ⟨(x6_2), (wrap64 (x7_1 + 1)), rq, H', ⟨by have := HK1.out; have := HK2.out; omega⟩, ⟨by (with_reducible repeat (first | apply Kd.S_alloc | apply Kd.S_drewN | apply Kd.S_drew)); exact HO_4.out⟩, ⟨by (with_reducible repeat (first | apply Kd.S_alloc | apply Kd.S_drewN | apply Kd.S_drew)); exact HO_6.out⟩, ⟨bU BK412.out⟩, ⟨bl⟩⟩
     ·rw [if_neg c8] at H
      exact absurd H (by simp)
    ·rw [if_neg c7] at H
     have c7b0 := decide_eq_false c7
     clear c7
     simp only [Option.some.injEq, Prod.mk.injEq] at H
     obtain ⟨rfl, rfl⟩ := H
     obtain ⟨Ao62, co62, eo62⟩ := Kd.S_slice HO_4.out
     subst eo62
     go_wp2
     go_ret2
     exact ⟨_, re, by (with_reducible repeat (first | apply Kd.S_alloc | apply Kd.S_drewN | apply Kd.S_drew)); exact Kd.S_mono HO_6.out (fun _ hk => trivial), bl⟩
 ·rw [if_neg c3] at H
  have c3b0 := beq_eq_false_iff_ne.mpr c3
  have c3b1 := bne_iff_ne.mpr c3
  simp only [Option.some.injEq, Prod.mk.injEq] at H
  obtain ⟨rfl, rfl⟩ := H
  go_enter Try.func35, Try.ntmps35
  go_wp2_with (first | ((with_reducible refine gd 1 rfl ?_); refine bx 1 #[.int .i64 a0_0, .int .i64 a0_1, .slice A0_2 l0_2.length c0_2] 24 rfl rfl ?_; intro gb412 hg w63 hbox hb; have n_ := aC (bs hb) (aC hbox (aC (gz hg) (aE (gz hg)))); clear HB; obtain ⟨HB, BK412, GW412, GE412⟩ := n_; clear hb hbox hg; obtain ⟨hcz64_0, hcz64_1, hcz64_2, hfz64_0, hfz64_1, hfz64_2⟩ := cz3f BK412.out) | ((with_reducible refine gf 22 rfl ?_); refine gL (some 18) rfl rfl Try.func22 rfl #[.agg #[.int .i64 a0_0, .int .i64 a0_1, .slice A0_2 l0_2.length c0_2]] rfl ?_; (with_reducible refine (incunableref15_Components.calls k a0_0 a0_1 _ _ l0_2 t413 t416 _ ?side1 ?side2 A2.out).mono ?_); (case side1 => exact cU (Kd.C_below HR0_2.out HB.out)); (case side2 => exact HC0_2.out); rintro e w65 ⟨v414, rfl, ho0, hb⟩; refine ⟨_, rfl, ?_⟩; have n_ := aC (Kd.S_lower ho0 bz) (aC (blk_below (bU BK412.out) hb) (aE (bs hb))); clear BK412 HB; obtain ⟨HO415, BK412, HB⟩ := n_; (try clear hb); (try clear ho0)))
  go_ret2
  exact ⟨_, re, by first | exact Kd.S_nil _ _ _ _ _ | exact Kd.N_nil _ _ _ _ _ | exact Kd.V_nil _ _ _ _ _ | exact Kd.Q_nil _ _ _ _ _ | exact Kd.R_nil _ _ _ _ _, bl⟩

end Go.Proofs.Ytaflekobfbgedaa.PShapePieces
