-- Written by a program of this session (wip/tools/myprint.py) over the kit's print. Not trusted: Lean checks it.
import Derived.Test.YtaflekobfbgedaaPShapeDrawsx0
import Derived.Test.YtaflekobfbgedaaPShapeDrawsx7
import Derived.Test.YtaflekobfbgedaaPShapeDrawsx8
import Derived.Test.YtaflekobfbgedaaPShapeDrawsx9
namespace Go.Proofs.Ytaflekobfbgedaa.PShapeDraws
open Go.RowKit Go.Proofs.YtaflekobfbgedaaW.PrintWords Go.Proofs.YtaflekobfbgedaaW.PrintLast Go.Proofs.YtaflekobfbgedaaW.PrintMore
attribute [local go_sem] max2_int min2_int max_two min_two max_three min_three max_four min_four   -- for this text's walks alone
set_option linter.unusedVariables false
set_option linter.unusedSimpArgs false

/-! ### incunableref15_Draw: function 28 -/
mutual
def incunableref15_Draw.l0 : Nat → Int → Int → List (S48) → Int → Option (Int × Int × List Int × Int)
  | 0, _, _, _, _ => none
  | k + 1, x0, x1, x2, x8 => if x8 < (x2.length : Int) then (if 0 ≤ x8 then ((incunableref05_Valid.f k ((rd_T48 x2 x8).f0.f0) ((rd_T48 x2 x8).f0.f1) ((rd_T48 x2 x8).f0.f2)).bind fun t289 => (if t289 = true then (incunableref15_Draw.l0 k x0 x1 x2 (wrap64 (x8 + 1))) else (some (0, 0, ([] : List Int), 30)))) else (none)) else ((incunableref05_New.f k x0 x1 0).bind fun bt290 => (incunableref15_Draw.l1 k x2 0 bt290.1 bt290.2.1 bt290.2.2.1))
def incunableref15_Draw.l1 : Nat → List (S48) → Int → Int → Int → List Int → Option (Int × Int × List Int × Int)
  | 0, _, _, _, _, _ => none
  | k + 1, x2, x11, x297000, x297001, x297002 => if x11 < (x2.length : Int) then (if 0 ≤ x11 then (if ((rd_T48 x2 x11).f1) < (-100000) then (some (0, 0, ([] : List Int), 2)) else (if ((rd_T48 x2 x11).f1) > 100000 then (some (0, 0, ([] : List Int), 2)) else (if ((rd_T48 x2 x11).f2) < (-100000) then (some (0, 0, ([] : List Int), 2)) else (if ((rd_T48 x2 x11).f2) > 100000 then (some (0, 0, ([] : List Int), 2)) else ((incunableref05_Lay.f k x297000 x297001 x297002 ((rd_T48 x2 x11).f0.f0) ((rd_T48 x2 x11).f0.f1) ((rd_T48 x2 x11).f0.f2) ((rd_T48 x2 x11).f1) ((rd_T48 x2 x11).f2) 1).bind fun t304 => (incunableref15_Draw.l1 k x2 (wrap64 (x11 + 1)) x297000 x297001 t304)))))) else (none)) else (some (x297000, x297001, x297002, 0))
end
def incunableref15_Draw.f (k : Nat) (a0 : Int) (a1 : Int) (l2 : List (S48)) : Option (Int × Int × List Int × Int) := (incunableref05_Sides.f a0 a1).bind fun t287 => (if t287 = true then (incunableref15_Draw.l0 k a0 a1 l2 0) else (some (0, 0, ([] : List Int), 30)))
theorem incunableref15_Draw.mono_l : ∀ k, (∀ y0 y1 y2 y3, LeO (incunableref15_Draw.l0 k y0 y1 y2 y3) (incunableref15_Draw.l0 (k + 1) y0 y1 y2 y3)) ∧ (∀ y0 y1 y2 y3 y4, LeO (incunableref15_Draw.l1 k y0 y1 y2 y3 y4) (incunableref15_Draw.l1 (k + 1) y0 y1 y2 y3 y4))
  | 0 => ⟨fun _ _ _ _ r h => by simp [incunableref15_Draw.l0] at h, fun _ _ _ _ _ r h => by simp [incunableref15_Draw.l1] at h⟩
  | k + 1 => by
    obtain ⟨ih0, ih1⟩ := incunableref15_Draw.mono_l k
    refine ⟨?_, ?_⟩
    · intro y0 y1 y2 y3
      unfold incunableref15_Draw.l0
      repeat' first
      | (with_reducible exact ih0 _ _ _ _)
      | (with_reducible exact ih1 _ _ _ _ _)
      | (with_reducible exact incunableref05_Lay.mono _ _ _ _ _ _ _ _ _ _)
      | (with_reducible exact incunableref05_New.mono _ _ _ _)
      | (with_reducible exact incunableref05_Valid.mono _ _ _ _)
      | (with_reducible exact LeO.refl _)
      | (with_reducible exact LeO.none _)
      | (with_reducible refine LeO.ite ?_ ?_)
      | (with_reducible refine LeO.bind ?_ (fun _ => ?_))
      | exact ih0 _ _ _ _
      | exact ih1 _ _ _ _ _
      | exact incunableref05_Lay.mono _ _ _ _ _ _ _ _ _ _
      | exact incunableref05_New.mono _ _ _ _
      | exact incunableref05_Valid.mono _ _ _ _
      | exact LeO.none _
      | refine LeO.ite ?_ ?_
      | refine LeO.bind ?_ (fun _ => ?_)
    · intro y0 y1 y2 y3 y4
      unfold incunableref15_Draw.l1
      repeat' first
      | (with_reducible exact ih0 _ _ _ _)
      | (with_reducible exact ih1 _ _ _ _ _)
      | (with_reducible exact incunableref05_Lay.mono _ _ _ _ _ _ _ _ _ _)
      | (with_reducible exact incunableref05_New.mono _ _ _ _)
      | (with_reducible exact incunableref05_Valid.mono _ _ _ _)
      | (with_reducible exact LeO.refl _)
      | (with_reducible exact LeO.none _)
      | (with_reducible refine LeO.ite ?_ ?_)
      | (with_reducible refine LeO.bind ?_ (fun _ => ?_))
      | exact ih0 _ _ _ _
      | exact ih1 _ _ _ _ _
      | exact incunableref05_Lay.mono _ _ _ _ _ _ _ _ _ _
      | exact incunableref05_New.mono _ _ _ _
      | exact incunableref05_Valid.mono _ _ _ _
      | exact LeO.none _
      | refine LeO.ite ?_ ?_
      | refine LeO.bind ?_ (fun _ => ?_)
theorem incunableref15_Draw.mono : ∀ a0 a1 a2 k, LeO (incunableref15_Draw.f k a0 a1 a2) (incunableref15_Draw.f (k + 1) a0 a1 a2) := by
  intro a0 a1 a2 k
  obtain ⟨ih0, ih1⟩ := incunableref15_Draw.mono_l k
  unfold incunableref15_Draw.f
  repeat' first
      | (with_reducible exact ih0 _ _ _ _)
      | (with_reducible exact ih1 _ _ _ _ _)
      | (with_reducible exact incunableref05_Lay.mono _ _ _ _ _ _ _ _ _ _)
      | (with_reducible exact incunableref05_New.mono _ _ _ _)
      | (with_reducible exact incunableref05_Valid.mono _ _ _ _)
      | (with_reducible exact LeO.refl _)
      | (with_reducible exact LeO.none _)
      | (with_reducible refine LeO.ite ?_ ?_)
      | (with_reducible refine LeO.bind ?_ (fun _ => ?_))
      | exact ih0 _ _ _ _
      | exact ih1 _ _ _ _ _
      | exact incunableref05_Lay.mono _ _ _ _ _ _ _ _ _ _
      | exact incunableref05_New.mono _ _ _ _
      | exact incunableref05_Valid.mono _ _ _ _
      | exact LeO.none _
      | refine LeO.ite ?_ ?_
      | refine LeO.bind ?_ (fun _ => ?_)
def incunableref15_Draw.T14 : Bool × List (List Nat × List Nat) := (true, [([], []), ([], []), ([], []), ([1, 2], [1, 2]), ([3], [3]), ([4], [4]), ([], []), ([], []), ([6, 7], [6, 7]), ([8], [8]), ([9], [9]), ([], []), ([], []), ([11, 12], [11, 12]), ([13], [13]), ([14], [14]), ([0, 5, 10, 15], [0, 5, 10, 15])])
def incunableref15_Draw.B14 : List Nat := [0, 0, 0, 6, 14, 30, 0, 0, 192, 448, 960, 0, 0, 6144, 14336, 30720, 65535]
theorem incunableref15_Draw.tab14 : rtab .any (opsOf Try.f28 14) = incunableref15_Draw.T14 := by kernel_rfl
theorem incunableref15_Draw.bits14 : waitsOk incunableref15_Draw.T14.2 incunableref15_Draw.B14 = true := by kernel_rfl
set_option maxHeartbeats 8000000 in
set_option maxRecDepth 100000 in
theorem incunableref15_Draw.calls (k : Nat) (a0 : Int) (a1 : Int) (A2 : Option Addr) (c2 : Nat) (l2 : List (S48)) (r1 : Int) (r2 : Int) (r3 : List Int) (r4 : Int) (w : World) (hr2 : Kd.C k48 w A2 l2.length l2) (hc2 : l2.length ≤ c2) (h : incunableref15_Draw.f k a0 a1 l2 = some (r1, r2, r3, r4)) :
    Calls Try.prog 28 #[.int .i64 a0, .int .i64 a1, .slice A2 l2.length c2] w fun e w' => ∃ v2_ : Value, e = .returned (.tuple #[.agg #[.int .i64 r1, .int .i64 r2, v2_], .int .i64 r4]) ∧ Kd.R (Kd.int .u8) 5 w' w.heap.size (fun _ => True) v2_ r3 ∧ Below w.heap.size w w' := by
  have hu24 := Try.underlying24
  have HR2 := Aside0.mk hr2
  have HC2 := Aside0.mk hc2
  clear hr2 hc2
  have HB := Aside0.mk (Below.refl w.heap.size w)
  have H : ((incunableref05_Sides.f a0 a1).bind fun t287 => (if t287 = true then (incunableref15_Draw.l0 k a0 a1 l2 0) else (some (0, 0, ([] : List Int), 30)))) = some (r1, r2, r3, r4) := h
  clear h
  replace H := Option.bind_eq_some_iff.mp H
  obtain ⟨t287, A40, H⟩ := H
  replace H : (if t287 = true then (incunableref15_Draw.l0 k a0 a1 l2 0) else (some (0, 0, ([] : List Int), 30))) = some (r1, r2, r3, r4) := H
  have A4 := Aside0.mk A40
  clear A40
  by_cases c5 : t287 = true
  · subst c5
    have H1 : (incunableref15_Draw.l0 k a0 a1 l2 0) = some (r1, r2, r3, r4) := by rw [if_pos rfl] at H; exact H
    clear H
    have H := H1
    clear H1
    have H' := Aside0.mk H
    clear H
    go_enter Try.func28, Try.ntmps28
    go_wp2_with (first | ((with_reducible refine gate_dst (N := 6) rfl ?_); refine box_event ?hg (N := 6) ?hd (cs := #[.int .i64 0, .int .i64 0, .slice none 0 0]) (t := 24) ?hr ?_; (case hd => rfl); (case hg => rfl); (case hr => first | (go_simp; done) | (go_simp; rfl)); intro gb286 hg w6 hbox hb; have n0_ := Aside0.mk (below_step (by repeat (first | (with_reducible first | exact HB.out | apply below_alloc | apply pw_below_drewN | apply below_drew1) | exact HB.out)) hb); have n1_ := Aside0.mk (hbox); have n2_ := Aside0.mk ((by rw [hg]; exact (below_size (by repeat (first | (with_reducible first | exact HB.out | apply below_alloc | apply pw_below_drewN | apply below_drew1) | exact HB.out))) : w.heap.size ≤ gb286)); have n3_ := Aside0.mk ((by rw [hg]; exact (below_size (by repeat (first | (with_reducible first | exact HB.out | apply below_alloc | apply pw_below_drewN | apply below_drew1) | exact HB.out))) : w.heap.size ≤ gb286)); clear HB; have HB := n0_; have BK286 := n1_; have GW286 := n2_; have GE286 := n3_; clear n0_ n1_ n2_ n3_; clear hb hbox hg) | ((with_reducible refine gate_callee (f := 58) rfl ?_); refine goesL_ (some 14) rfl rfl Try.func58 (by kernel_rfl) rfl #[.int .i64 a0, .int .i64 a1] rfl (by (try simp only [List.map_toArray, List.map_cons, List.map_nil]); first | done | rfl | (simp only [List.length_drop, List.length_take]; rfl)) ?_; (with_reducible refine (incunableref05_Sides.calls a0 a1 true _ A4.out).mono ?_); rintro e w' ⟨rfl, ⟨nd, rfl⟩⟩; refine ⟨_, rfl, ?_⟩))
    go_loopg [8] k (fun kq v8 w' => ∃ (x8_1 : Int) (x287000_1 : Int) (x287001_1 : Int), v8 = .int .i64 x8_1 ∧ Aside0 (incunableref15_Draw.l0 kq a0 a1 l2 x8_1 = some (r1, r2, r3, r4)) ∧ Aside0 (kq ≤ k) ∧ Aside0 (w'.heap[gb286]? = some (.cells #[.int .i64 x287000_1, .int .i64 x287001_1, (.slice none 0 0)] 24 (0, 0))) ∧ Aside0 (Below w.heap.size w w'))
    case atStart => exact ⟨(0), (0), (0), (by first | rfl | (simp; done) | (simp [*]; done)), H', ⟨Nat.le_refl _⟩, ⟨by exact bU BK286.out⟩, ⟨by repeat (first | (with_reducible first | exact HB.out | apply below_alloc | apply pw_below_drewN | apply below_drew1 | refine below_set ?_ GE286.out) | exact HB.out)⟩⟩
    case round =>
      clear H'
      try clear c2
      try clear p2
      try clear c5
      obtain ⟨x8_1, x287000_1, x287001_1, rfl, HA, HK1, BK286, HB⟩ := hrel
      cases gk with
      | zero => exact absurd HA.out (by simp [incunableref15_Draw.l0])
      | succ k1 =>
        have H := HA.out
        clear HA
        simp only [incunableref15_Draw.l0] at H
        by_cases c7 : x8_1 < (l2.length : Int)
        · rw [if_pos c7] at H
          have c7b0 : decide (x8_1 < (l2.length : Int)) = true := decide_eq_true c7
          clear c7
          by_cases c8 : 0 ≤ x8_1
          · rw [if_pos c8] at H
            have c8b0 : decide (0 ≤ x8_1) = true := decide_eq_true c8
            clear c8
            replace H := Option.bind_eq_some_iff.mp H
            obtain ⟨t289, A90, H⟩ := H
            replace H : (if t289 = true then (incunableref15_Draw.l0 k1 a0 a1 l2 (wrap64 (x8_1 + 1))) else (some (0, 0, ([] : List Int), 30))) = some (r1, r2, r3, r4) := H
            have A9 := Aside0.mk A90
            clear A90
            by_cases c10 : t289 = true
            · subst c10
              have H1 : (incunableref15_Draw.l0 k1 a0 a1 l2 (wrap64 (x8_1 + 1))) = some (r1, r2, r3, r4) := by rw [if_pos rfl] at H; exact H
              clear H
              have H := H1
              clear H1
              have H' := Aside0.mk H
              clear H
              have p288 : 0 ≤ (x8_1 : Int) := of_decide_eq_true (by first | (with_reducible assumption) | assumption)
              have q288 : x8_1 < (l2.length : Int) := of_decide_eq_true (by first | (with_reducible assumption) | assumption)
              obtain ⟨ad288, A288_2, c288_2, e288, hx288_0, hx288_1, hx288_2, hx288_3, hx288_4, hl288_2, hi288_2⟩ := at_T48 HR2.out x8_1 p288 q288
              cases e288
              replace hx288_0 := (HB.out.cell (World.block_lt_of_cell? w _ hx288_0)).trans hx288_0
              replace hx288_1 := (HB.out.cell (World.block_lt_of_cell? w _ hx288_1)).trans hx288_1
              replace hx288_2 := (HB.out.cell (World.block_lt_of_cell? w _ hx288_2)).trans hx288_2
              replace hx288_3 := (HB.out.cell (World.block_lt_of_cell? w _ hx288_3)).trans hx288_3
              replace hx288_4 := (HB.out.cell (World.block_lt_of_cell? w _ hx288_4)).trans hx288_4
              have HR288_2 := Aside0.mk hi288_2
              have HC288_2 := Aside0.mk hl288_2
              clear hi288_2 hl288_2
              replace p288 := eq_true p288
              replace q288 := eq_true q288
              go_wp2_with (first | ((with_reducible refine gate_callee (f := 33) rfl ?_); refine goesL_ (some 28) rfl rfl Try.func33 (by kernel_rfl) rfl #[.agg #[.int .i64 ((rd_T48 l2 x8_1).f0.f0), .int .i64 ((rd_T48 l2 x8_1).f0.f1), .slice A288_2 ((rd_T48 l2 x8_1).f0.f2).length c288_2]] rfl (by (try simp only [List.map_toArray, List.map_cons, List.map_nil]); first | done | rfl | (simp only [List.length_drop, List.length_take]; rfl)) ?_; (with_reducible refine (incunableref05_Valid.calls k1 ((rd_T48 l2 x8_1).f0.f0) ((rd_T48 l2 x8_1).f0.f1) _ _ ((rd_T48 l2 x8_1).f0.f2) true _ ?side1 ?side2 A9.out).mono ?_); (case side1 => repeat (first | exact (Kd.C_below HR288_2.out HB.out) | (with_reducible refine Kd.C_alloc ?_ _) | (with_reducible refine Kd.C_drewN ?_ _) | (with_reducible refine Kd.C_drew ?_))); (case side2 => exact HC288_2.out); rintro e w11 ⟨rfl, hb⟩; refine ⟨_, rfl, ?_⟩; have n0_ := Aside0.mk (blk_below (bU BK286.out) hb); have n1_ := Aside0.mk (below_step (by repeat (first | (with_reducible first | exact HB.out | apply below_alloc | apply pw_below_drewN | apply below_drew1 | refine below_set ?_ GE286.out) | exact HB.out)) hb); clear BK286; clear HB; have BK286 := n0_; have HB := n1_; clear n0_ n1_; (try clear hb); (try clear hb2); (try clear hk); (try clear hi)))
              go_roundg k1
              case measure => have := HK1.out; omega
              case rel => exact ⟨(wrap64 (x8_1 + 1)), (x287000_1), (x287001_1), (by first | rfl | (simp; done) | (simp [*]; done)), H', ⟨by have := HK1.out; omega⟩, ⟨by exact bU BK286.out⟩, ⟨by repeat (first | (with_reducible first | exact HB.out | apply below_alloc | apply pw_below_drewN | apply below_drew1 | refine below_set ?_ GE286.out) | exact HB.out)⟩⟩
            · replace c10 := Bool.eq_false_iff.mpr c10
              subst c10
              have H1 : (some (0, 0, ([] : List Int), 30)) = some (r1, r2, r3, r4) := by rw [if_neg (show ¬ (false = true) by decide)] at H; exact H
              clear H
              have H := H1
              clear H1
              simp only [Option.some.injEq, Prod.mk.injEq] at H
              obtain ⟨rfl, rfl, rfl, rfl⟩ := H
              have p288 : 0 ≤ (x8_1 : Int) := of_decide_eq_true (by first | (with_reducible assumption) | assumption)
              have q288 : x8_1 < (l2.length : Int) := of_decide_eq_true (by first | (with_reducible assumption) | assumption)
              obtain ⟨ad288, A288_2, c288_2, e288, hx288_0, hx288_1, hx288_2, hx288_3, hx288_4, hl288_2, hi288_2⟩ := at_T48 HR2.out x8_1 p288 q288
              cases e288
              replace hx288_0 := (HB.out.cell (World.block_lt_of_cell? w _ hx288_0)).trans hx288_0
              replace hx288_1 := (HB.out.cell (World.block_lt_of_cell? w _ hx288_1)).trans hx288_1
              replace hx288_2 := (HB.out.cell (World.block_lt_of_cell? w _ hx288_2)).trans hx288_2
              replace hx288_3 := (HB.out.cell (World.block_lt_of_cell? w _ hx288_3)).trans hx288_3
              replace hx288_4 := (HB.out.cell (World.block_lt_of_cell? w _ hx288_4)).trans hx288_4
              have HR288_2 := Aside0.mk hi288_2
              have HC288_2 := Aside0.mk hl288_2
              clear hi288_2 hl288_2
              replace p288 := eq_true p288
              replace q288 := eq_true q288
              go_wp2_with (first | ((with_reducible refine gate_callee (f := 33) rfl ?_); refine goesL_ (some 28) rfl rfl Try.func33 (by kernel_rfl) rfl #[.agg #[.int .i64 ((rd_T48 l2 x8_1).f0.f0), .int .i64 ((rd_T48 l2 x8_1).f0.f1), .slice A288_2 ((rd_T48 l2 x8_1).f0.f2).length c288_2]] rfl (by (try simp only [List.map_toArray, List.map_cons, List.map_nil]); first | done | rfl | (simp only [List.length_drop, List.length_take]; rfl)) ?_; (with_reducible refine (incunableref05_Valid.calls k1 ((rd_T48 l2 x8_1).f0.f0) ((rd_T48 l2 x8_1).f0.f1) _ _ ((rd_T48 l2 x8_1).f0.f2) false _ ?side1 ?side2 A9.out).mono ?_); (case side1 => repeat (first | exact (Kd.C_below HR288_2.out HB.out) | (with_reducible refine Kd.C_alloc ?_ _) | (with_reducible refine Kd.C_drewN ?_ _) | (with_reducible refine Kd.C_drew ?_))); (case side2 => exact HC288_2.out); rintro e w12 ⟨rfl, hb⟩; refine ⟨_, rfl, ?_⟩; have n0_ := Aside0.mk (blk_below (bU BK286.out) hb); have n1_ := Aside0.mk (below_step (by repeat (first | (with_reducible first | exact HB.out | apply below_alloc | apply pw_below_drewN | apply below_drew1 | refine below_set ?_ GE286.out) | exact HB.out)) hb); clear BK286; clear HB; have BK286 := n0_; have HB := n1_; clear n0_ n1_; (try clear hb); (try clear hb2); (try clear hk); (try clear hi); have hcz13_0 : w12.cell? ⟨gb286, 0, none⟩ = some (.int .i64 x287000_1) := (blk_cell BK286.out 0).trans rfl; have hcz13_1 : w12.cell? ⟨gb286, 1, none⟩ = some (.int .i64 x287001_1) := (blk_cell BK286.out 1).trans rfl; have hcz13_2 : w12.cell? ⟨gb286, 2, none⟩ = some (.slice none 0 0) := (blk_cell BK286.out 2).trans rfl; have hfz13_0 := blk_frozen BK286.out 0; have hfz13_1 := blk_frozen BK286.out 1; have hfz13_2 := blk_frozen BK286.out 2))
              refine bodyPost_ret (results_ct rfl _ _ gb286 24 #[.int .i64 0, .int .i64 0, .slice none 0 0] (0, 0) _ rfl (by (with_reducible repeat (first | refine blk_drewN ?_ _ | refine blk_drew ?_ | refine blk_alloc ?_ _)); refine blk_put (cs := #[.int .i64 0, .int .i64 0, .slice none 0 0]) ?_ 2 _ rfl; (with_reducible repeat (first | refine blk_drewN ?_ _ | refine blk_drew ?_ | refine blk_alloc ?_ _)); refine blk_put (cs := #[.int .i64 0, .int .i64 x287001_1, .slice none 0 0]) ?_ 1 _ rfl; (with_reducible repeat (first | refine blk_drewN ?_ _ | refine blk_drew ?_ | refine blk_alloc ?_ _)); refine blk_put (cs := #[.int .i64 x287000_1, .int .i64 x287001_1, .slice none 0 0]) ?_ 0 _ rfl; exact bU BK286.out) Try.underlying24 rfl (by kernel_rfl)) rfl ?_
              exact ⟨_, by first | rfl | (simp [errW_none, errW_some] <;> rfl) | (simp [*, errW_none, errW_some] <;> rfl), by first | exact Kd.R_nil _ _ _ _ _ | exact Kd.N_nil _ _ _ _ _ | exact Kd.V_nil _ _ _ _ _ | exact Kd.Q_nil _ _ _ _ _ | exact Kd.S_nil _ _ _ _ _, by repeat (first | (with_reducible first | exact HB.out | apply below_alloc | apply pw_below_drewN | apply below_drew1 | refine below_set ?_ GE286.out) | exact HB.out)⟩
          · rw [if_neg c8] at H
            exact absurd H (by simp)
        · rw [if_neg c7] at H
          have c7b0 : decide (x8_1 < (l2.length : Int)) = false := decide_eq_false c7
          clear c7
          replace H := Option.bind_eq_some_iff.mp H
          obtain ⟨⟨t290, t291, t292, t295⟩, A140, H⟩ := H
          replace H : (incunableref15_Draw.l1 k1 l2 0 t290 t291 t292) = some (r1, r2, r3, r4) := H
          have A14 := Aside0.mk A140
          clear A140
          have H' := Aside0.mk H
          clear H
          go_wp2_with (first | ((with_reducible refine gate_callee (f := 59) rfl ?_); refine goesL_ (some 34) rfl rfl Try.func59 (by kernel_rfl) rfl #[.int .i64 a0, .int .i64 a1, .int .i64 0] rfl (by (try simp only [List.map_toArray, List.map_cons, List.map_nil]); first | done | rfl | (simp only [List.length_drop, List.length_take]; rfl)) ?_; (with_reducible refine (incunableref05_New.calls k1 a0 a1 0 t290 t291 t292 t295 _ A14.out).mono ?_); rintro e w15 ⟨v293, rfl, ho0, hb⟩; refine ⟨_, rfl, ?_⟩; have n0_ := Aside0.mk (Kd.R_lower ho0 (below_size (by repeat (first | (with_reducible first | exact HB.out | apply below_alloc | apply pw_below_drewN | apply below_drew1 | refine below_set ?_ GE286.out) | exact HB.out)))); have n1_ := Aside0.mk (blk_below (bU BK286.out) hb); have n2_ := Aside0.mk (below_step (by repeat (first | (with_reducible first | exact HB.out | apply below_alloc | apply pw_below_drewN | apply below_drew1 | refine below_set ?_ GE286.out) | exact HB.out)) hb); clear BK286; clear HB; have HO294 := n0_; have BK286 := n1_; have HB := n2_; clear n0_ n1_ n2_; (try clear hb); (try clear hb2); (try clear hk); (try clear hi); (try clear ho0)) | ((with_reducible refine gate_dst (N := 9) rfl ?_); refine box_event ?hg (N := 9) ?hd (cs := #[.int .i64 0, .int .i64 0, .slice none 0 0]) (t := 24) ?hr ?_; (case hd => rfl); (case hg => rfl); (case hr => first | (go_simp; done) | (go_simp; rfl)); intro gb296 hg w16 hbox hb; have n0_ := Aside0.mk (Kd.R_below (rU HO294.out) hb); have n1_ := Aside0.mk (blk_below (bU BK286.out) hb); have n2_ := Aside0.mk (below_step (by repeat (first | (with_reducible first | exact HB.out | apply below_alloc | apply pw_below_drewN | apply below_drew1 | refine below_set ?_ GE286.out) | exact HB.out)) hb); have n3_ := Aside0.mk (hbox); have n4_ := Aside0.mk ((by rw [hg]; exact (below_size (by repeat (first | (with_reducible first | exact HB.out | apply below_alloc | apply pw_below_drewN | apply below_drew1 | refine below_set ?_ GE286.out) | exact HB.out))) : w.heap.size ≤ gb296)); have n5_ := Aside0.mk ((by rw [hg]; exact (below_size (by repeat (first | (with_reducible first | exact HB.out | apply below_alloc | apply pw_below_drewN | apply below_drew1 | refine below_set ?_ GE286.out) | exact HB.out))) : w.heap.size ≤ gb296)); have n6_ := Aside0.mk ((by rw [hg]; exact Nat.ne_of_lt (blk_lt (bU BK286.out)) : gb286 ≠ gb296)); have n7_ := Aside0.mk ((by rw [hg]; exact Nat.ne_of_gt (blk_lt (bU BK286.out)) : gb296 ≠ gb286)); clear HO294; clear BK286; clear HB; have HO294 := n0_; have BK286 := n1_; have HB := n2_; have BK296 := n3_; have GW296 := n4_; have GE296 := n5_; have NB286_296 := n6_; have NB296_286 := n7_; clear n0_ n1_ n2_ n3_ n4_ n5_ n6_ n7_; clear hb hbox hg; have hnb17 := NB296_286.out; have hnc17 := NB286_296.out; have hcz18_0 : w16.cell? ⟨gb296, 0, none⟩ = some (.int .i64 0) := (blk_cell BK296.out 0).trans rfl; have hcz18_1 : w16.cell? ⟨gb296, 1, none⟩ = some (.int .i64 0) := (blk_cell BK296.out 1).trans rfl; have hcz18_2 : w16.cell? ⟨gb296, 2, none⟩ = some (.slice none 0 0) := (blk_cell BK296.out 2).trans rfl; have hfz18_0 := blk_frozen BK296.out 0; have hfz18_1 := blk_frozen BK296.out 1; have hfz18_2 := blk_frozen BK296.out 2; obtain ⟨Ao19, co19, eo19⟩ := Kd.R_slice HO294.out; subst eo19))
          go_loopg [11] k1 (fun kq v11 w' => ∃ (x11_2 : Int) (x287000_2 : Int) (x287001_2 : Int) (x297002_2 : List Int) (u297002 : Value), v11 = .int .i64 x11_2 ∧ Aside0 (incunableref15_Draw.l1 kq l2 x11_2 t290 t291 x297002_2 = some (r1, r2, r3, r4)) ∧ Aside0 (kq ≤ k1) ∧ Aside0 (Kd.R (Kd.int .u8) 5 w' w.heap.size (fun _ => True) u297002 x297002_2) ∧ Aside0 (w'.heap[gb286]? = some (.cells #[.int .i64 x287000_2, .int .i64 x287001_2, (.slice none 0 0)] 24 (0, 0))) ∧ Aside0 (w'.heap[gb296]? = some (.cells #[.int .i64 t290, .int .i64 t291, u297002] 24 (0, 0))) ∧ Aside0 (Below w.heap.size w w'))
          case atStart => exact ⟨(0), (x287000_1), (x287001_1), (t292), (.slice Ao19 t292.length co19), (by first | rfl | (simp; done) | (simp [*]; done)), H', ⟨Nat.le_refl _⟩, ⟨by (with_reducible repeat (first | apply Kd.R_alloc | apply Kd.R_drewN | apply Kd.R_drew)); exact Kd.R_mono (Kd.R_far (p := ⟨gb296, 2, none⟩) (Kd.R_far (p := ⟨gb296, 1, none⟩) (Kd.R_far (p := ⟨gb296, 0, none⟩) (Kd.R_types HO294.out BK296.out (by decide)) (fun _ hk => hk.2) (.int .i64 t290)) (fun _ hk => hk.2) (.int .i64 t291)) (fun _ hk => hk.2) (.slice Ao19 t292.length co19)) (fun _ hk => trivial)⟩, ⟨by refine bF ?_ ?_; exact NB286_296.out; refine bF ?_ ?_; exact NB286_296.out; refine bF ?_ ?_; exact NB286_296.out; exact bU BK286.out⟩, ⟨by (with_reducible repeat (first | refine blk_drewN ?_ _ | refine blk_drew ?_ | refine blk_alloc ?_ _)); refine blk_put (cs := #[.int .i64 t290, .int .i64 t291, .slice none 0 0]) ?_ 2 _ rfl; (with_reducible repeat (first | refine blk_drewN ?_ _ | refine blk_drew ?_ | refine blk_alloc ?_ _)); refine blk_put (cs := #[.int .i64 t290, .int .i64 0, .slice none 0 0]) ?_ 1 _ rfl; (with_reducible repeat (first | refine blk_drewN ?_ _ | refine blk_drew ?_ | refine blk_alloc ?_ _)); refine blk_put (cs := #[.int .i64 0, .int .i64 0, .slice none 0 0]) ?_ 0 _ rfl; exact bU BK296.out⟩, ⟨by repeat (first | (with_reducible first | exact HB.out | apply below_alloc | apply pw_below_drewN | apply below_drew1 | refine below_set ?_ GE286.out | refine below_set ?_ GE296.out) | exact HB.out)⟩⟩
          case round =>
            clear H'
            try clear c1
            try clear c2
            try clear p2
            try clear q2
            try clear hx2
            try clear c3
            try clear c5
            try clear p6
            try clear c7
            try clear c7b0
            try clear c8
            try clear c8b0
            try clear c10
            try clear c17
            try clear hcz13_0
            try clear hcz13_1
            try clear hcz13_2
            try clear hcz18_0
            try clear hcz18_1
            try clear hcz18_2
            try clear hfz13_0
            try clear hfz13_1
            try clear hfz13_2
            try clear hfz18_0
            try clear hfz18_1
            try clear hfz18_2
            try clear hx288_0
            try clear hx288_1
            try clear hx288_2
            try clear hx288_3
            try clear hx288_4
            try clear p2
            try clear p288
            try clear q288
            obtain ⟨x11_2, x287000_2, x287001_2, x297002_2, u297002, rfl, HA, HK2, HO_297002, BK286, BK296, HB⟩ := hrel
            cases gk with
            | zero => exact absurd HA.out (by simp [incunableref15_Draw.l1])
            | succ k2 =>
              have H := HA.out
              clear HA
              simp only [incunableref15_Draw.l1] at H
              by_cases c20 : x11_2 < (l2.length : Int)
              · rw [if_pos c20] at H
                have c20b0 : decide (x11_2 < (l2.length : Int)) = true := decide_eq_true c20
                clear c20
                by_cases c21 : 0 ≤ x11_2
                · rw [if_pos c21] at H
                  have c21b0 : decide (0 ≤ x11_2) = true := decide_eq_true c21
                  clear c21
                  by_cases c22 : ((rd_T48 l2 x11_2).f1) < (-100000)
                  · rw [if_pos c22] at H
                    have c22b0 : decide (((rd_T48 l2 x11_2).f1) < (-100000)) = true := decide_eq_true c22
                    clear c22
                    simp only [Option.some.injEq, Prod.mk.injEq] at H
                    obtain ⟨rfl, rfl, rfl, rfl⟩ := H
                    have p297 : 0 ≤ (x11_2 : Int) := of_decide_eq_true (by first | (with_reducible assumption) | assumption)
                    have q297 : x11_2 < (l2.length : Int) := of_decide_eq_true (by first | (with_reducible assumption) | assumption)
                    obtain ⟨ad297, A297_2, c297_2, e297, hx297_0, hx297_1, hx297_2, hx297_3, hx297_4, hl297_2, hi297_2⟩ := at_T48 HR2.out x11_2 p297 q297
                    cases e297
                    replace hx297_0 := (HB.out.cell (World.block_lt_of_cell? w _ hx297_0)).trans hx297_0
                    replace hx297_1 := (HB.out.cell (World.block_lt_of_cell? w _ hx297_1)).trans hx297_1
                    replace hx297_2 := (HB.out.cell (World.block_lt_of_cell? w _ hx297_2)).trans hx297_2
                    replace hx297_3 := (HB.out.cell (World.block_lt_of_cell? w _ hx297_3)).trans hx297_3
                    replace hx297_4 := (HB.out.cell (World.block_lt_of_cell? w _ hx297_4)).trans hx297_4
                    have HR297_2 := Aside0.mk hi297_2
                    have HC297_2 := Aside0.mk hl297_2
                    clear hi297_2 hl297_2
                    replace p297 := eq_true p297
                    replace q297 := eq_true q297
                    have hnb23 := NB286_296.out
                    have hnc23 := NB296_286.out
                    have hcz24_0 : wr.cell? ⟨gb286, 0, none⟩ = some (.int .i64 x287000_2) := (blk_cell BK286.out 0).trans rfl
                    have hcz24_1 : wr.cell? ⟨gb286, 1, none⟩ = some (.int .i64 x287001_2) := (blk_cell BK286.out 1).trans rfl
                    have hcz24_2 : wr.cell? ⟨gb286, 2, none⟩ = some (.slice none 0 0) := (blk_cell BK286.out 2).trans rfl
                    have hfz24_0 := blk_frozen BK286.out 0
                    have hfz24_1 := blk_frozen BK286.out 1
                    have hfz24_2 := blk_frozen BK286.out 2
                    go_wp2
                    refine bodyPost_ret (results_ct rfl _ _ gb286 24 #[.int .i64 0, .int .i64 0, .slice none 0 0] (0, 0) _ rfl (by (with_reducible repeat (first | refine blk_drewN ?_ _ | refine blk_drew ?_ | refine blk_alloc ?_ _)); refine blk_put (cs := #[.int .i64 0, .int .i64 0, .slice none 0 0]) ?_ 2 _ rfl; (with_reducible repeat (first | refine blk_drewN ?_ _ | refine blk_drew ?_ | refine blk_alloc ?_ _)); refine blk_put (cs := #[.int .i64 0, .int .i64 x287001_2, .slice none 0 0]) ?_ 1 _ rfl; (with_reducible repeat (first | refine blk_drewN ?_ _ | refine blk_drew ?_ | refine blk_alloc ?_ _)); refine blk_put (cs := #[.int .i64 x287000_2, .int .i64 x287001_2, .slice none 0 0]) ?_ 0 _ rfl; exact bU BK286.out) Try.underlying24 rfl (by kernel_rfl)) rfl ?_
                    exact ⟨_, by first | rfl | (simp [errW_none, errW_some] <;> rfl) | (simp [*, errW_none, errW_some] <;> rfl), by first | exact Kd.R_nil _ _ _ _ _ | exact Kd.N_nil _ _ _ _ _ | exact Kd.V_nil _ _ _ _ _ | exact Kd.Q_nil _ _ _ _ _ | exact Kd.S_nil _ _ _ _ _, by repeat (first | (with_reducible first | exact HB.out | apply below_alloc | apply pw_below_drewN | apply below_drew1 | refine below_set ?_ GE286.out | refine below_set ?_ GE296.out) | exact HB.out)⟩
                  · rw [if_neg c22] at H
                    have c22b0 : decide (((rd_T48 l2 x11_2).f1) < (-100000)) = false := decide_eq_false c22
                    clear c22
                    by_cases c25 : ((rd_T48 l2 x11_2).f1) > 100000
                    · rw [if_pos c25] at H
                      have c25b0 : decide (100000 < ((rd_T48 l2 x11_2).f1)) = true := decide_eq_true c25
                      clear c25
                      simp only [Option.some.injEq, Prod.mk.injEq] at H
                      obtain ⟨rfl, rfl, rfl, rfl⟩ := H
                      have p297 : 0 ≤ (x11_2 : Int) := of_decide_eq_true (by first | (with_reducible assumption) | assumption)
                      have q297 : x11_2 < (l2.length : Int) := of_decide_eq_true (by first | (with_reducible assumption) | assumption)
                      obtain ⟨ad297, A297_2, c297_2, e297, hx297_0, hx297_1, hx297_2, hx297_3, hx297_4, hl297_2, hi297_2⟩ := at_T48 HR2.out x11_2 p297 q297
                      cases e297
                      replace hx297_0 := (HB.out.cell (World.block_lt_of_cell? w _ hx297_0)).trans hx297_0
                      replace hx297_1 := (HB.out.cell (World.block_lt_of_cell? w _ hx297_1)).trans hx297_1
                      replace hx297_2 := (HB.out.cell (World.block_lt_of_cell? w _ hx297_2)).trans hx297_2
                      replace hx297_3 := (HB.out.cell (World.block_lt_of_cell? w _ hx297_3)).trans hx297_3
                      replace hx297_4 := (HB.out.cell (World.block_lt_of_cell? w _ hx297_4)).trans hx297_4
                      have HR297_2 := Aside0.mk hi297_2
                      have HC297_2 := Aside0.mk hl297_2
                      clear hi297_2 hl297_2
                      replace p297 := eq_true p297
                      replace q297 := eq_true q297
                      have p298 : 0 ≤ (x11_2 : Int) := of_decide_eq_true (by first | (with_reducible assumption) | assumption)
                      have q298 : x11_2 < (l2.length : Int) := of_decide_eq_true (by first | (with_reducible assumption) | assumption)
                      obtain ⟨ad298, A298_2, c298_2, e298, hx298_0, hx298_1, hx298_2, hx298_3, hx298_4, hl298_2, hi298_2⟩ := at_T48 HR2.out x11_2 p298 q298
                      obtain rfl : ad297 = ad298 := (by injection e298)
                      replace hx298_0 := (HB.out.cell (World.block_lt_of_cell? w _ hx298_0)).trans hx298_0
                      replace hx298_1 := (HB.out.cell (World.block_lt_of_cell? w _ hx298_1)).trans hx298_1
                      replace hx298_2 := (HB.out.cell (World.block_lt_of_cell? w _ hx298_2)).trans hx298_2
                      replace hx298_3 := (HB.out.cell (World.block_lt_of_cell? w _ hx298_3)).trans hx298_3
                      replace hx298_4 := (HB.out.cell (World.block_lt_of_cell? w _ hx298_4)).trans hx298_4
                      have HR298_2 := Aside0.mk hi298_2
                      have HC298_2 := Aside0.mk hl298_2
                      clear hi298_2 hl298_2
                      replace p298 := eq_true p298
                      replace q298 := eq_true q298
                      have ea_ := Option.some.inj (hx297_2.symm.trans hx298_2)
                      injection ea_ with ea_ en_ ec_
                      subst ea_
                      subst ec_
                      clear en_
                      have hnb26 := NB286_296.out
                      have hnc26 := NB296_286.out
                      have hcz27_0 : wr.cell? ⟨gb286, 0, none⟩ = some (.int .i64 x287000_2) := (blk_cell BK286.out 0).trans rfl
                      have hcz27_1 : wr.cell? ⟨gb286, 1, none⟩ = some (.int .i64 x287001_2) := (blk_cell BK286.out 1).trans rfl
                      have hcz27_2 : wr.cell? ⟨gb286, 2, none⟩ = some (.slice none 0 0) := (blk_cell BK286.out 2).trans rfl
                      have hfz27_0 := blk_frozen BK286.out 0
                      have hfz27_1 := blk_frozen BK286.out 1
                      have hfz27_2 := blk_frozen BK286.out 2
                      go_wp2
                      refine bodyPost_ret (results_ct rfl _ _ gb286 24 #[.int .i64 0, .int .i64 0, .slice none 0 0] (0, 0) _ rfl (by (with_reducible repeat (first | refine blk_drewN ?_ _ | refine blk_drew ?_ | refine blk_alloc ?_ _)); refine blk_put (cs := #[.int .i64 0, .int .i64 0, .slice none 0 0]) ?_ 2 _ rfl; (with_reducible repeat (first | refine blk_drewN ?_ _ | refine blk_drew ?_ | refine blk_alloc ?_ _)); refine blk_put (cs := #[.int .i64 0, .int .i64 x287001_2, .slice none 0 0]) ?_ 1 _ rfl; (with_reducible repeat (first | refine blk_drewN ?_ _ | refine blk_drew ?_ | refine blk_alloc ?_ _)); refine blk_put (cs := #[.int .i64 x287000_2, .int .i64 x287001_2, .slice none 0 0]) ?_ 0 _ rfl; exact bU BK286.out) Try.underlying24 rfl (by kernel_rfl)) rfl ?_
                      exact ⟨_, by first | rfl | (simp [errW_none, errW_some] <;> rfl) | (simp [*, errW_none, errW_some] <;> rfl), by first | exact Kd.R_nil _ _ _ _ _ | exact Kd.N_nil _ _ _ _ _ | exact Kd.V_nil _ _ _ _ _ | exact Kd.Q_nil _ _ _ _ _ | exact Kd.S_nil _ _ _ _ _, by repeat (first | (with_reducible first | exact HB.out | apply below_alloc | apply pw_below_drewN | apply below_drew1 | refine below_set ?_ GE286.out | refine below_set ?_ GE296.out) | exact HB.out)⟩
                    · rw [if_neg c25] at H
                      have c25b0 : decide (100000 < ((rd_T48 l2 x11_2).f1)) = false := decide_eq_false c25
                      clear c25
                      by_cases c28 : ((rd_T48 l2 x11_2).f2) < (-100000)
                      · rw [if_pos c28] at H
                        have c28b0 : decide (((rd_T48 l2 x11_2).f2) < (-100000)) = true := decide_eq_true c28
                        clear c28
                        simp only [Option.some.injEq, Prod.mk.injEq] at H
                        obtain ⟨rfl, rfl, rfl, rfl⟩ := H
                        have p297 : 0 ≤ (x11_2 : Int) := of_decide_eq_true (by first | (with_reducible assumption) | assumption)
                        have q297 : x11_2 < (l2.length : Int) := of_decide_eq_true (by first | (with_reducible assumption) | assumption)
                        obtain ⟨ad297, A297_2, c297_2, e297, hx297_0, hx297_1, hx297_2, hx297_3, hx297_4, hl297_2, hi297_2⟩ := at_T48 HR2.out x11_2 p297 q297
                        cases e297
                        replace hx297_0 := (HB.out.cell (World.block_lt_of_cell? w _ hx297_0)).trans hx297_0
                        replace hx297_1 := (HB.out.cell (World.block_lt_of_cell? w _ hx297_1)).trans hx297_1
                        replace hx297_2 := (HB.out.cell (World.block_lt_of_cell? w _ hx297_2)).trans hx297_2
                        replace hx297_3 := (HB.out.cell (World.block_lt_of_cell? w _ hx297_3)).trans hx297_3
                        replace hx297_4 := (HB.out.cell (World.block_lt_of_cell? w _ hx297_4)).trans hx297_4
                        have HR297_2 := Aside0.mk hi297_2
                        have HC297_2 := Aside0.mk hl297_2
                        clear hi297_2 hl297_2
                        replace p297 := eq_true p297
                        replace q297 := eq_true q297
                        have p298 : 0 ≤ (x11_2 : Int) := of_decide_eq_true (by first | (with_reducible assumption) | assumption)
                        have q298 : x11_2 < (l2.length : Int) := of_decide_eq_true (by first | (with_reducible assumption) | assumption)
                        obtain ⟨ad298, A298_2, c298_2, e298, hx298_0, hx298_1, hx298_2, hx298_3, hx298_4, hl298_2, hi298_2⟩ := at_T48 HR2.out x11_2 p298 q298
                        obtain rfl : ad297 = ad298 := (by injection e298)
                        replace hx298_0 := (HB.out.cell (World.block_lt_of_cell? w _ hx298_0)).trans hx298_0
                        replace hx298_1 := (HB.out.cell (World.block_lt_of_cell? w _ hx298_1)).trans hx298_1
                        replace hx298_2 := (HB.out.cell (World.block_lt_of_cell? w _ hx298_2)).trans hx298_2
                        replace hx298_3 := (HB.out.cell (World.block_lt_of_cell? w _ hx298_3)).trans hx298_3
                        replace hx298_4 := (HB.out.cell (World.block_lt_of_cell? w _ hx298_4)).trans hx298_4
                        have HR298_2 := Aside0.mk hi298_2
                        have HC298_2 := Aside0.mk hl298_2
                        clear hi298_2 hl298_2
                        replace p298 := eq_true p298
                        replace q298 := eq_true q298
                        have ea_ := Option.some.inj (hx297_2.symm.trans hx298_2)
                        injection ea_ with ea_ en_ ec_
                        subst ea_
                        subst ec_
                        clear en_
                        have p299 : 0 ≤ (x11_2 : Int) := of_decide_eq_true (by first | (with_reducible assumption) | assumption)
                        have q299 : x11_2 < (l2.length : Int) := of_decide_eq_true (by first | (with_reducible assumption) | assumption)
                        obtain ⟨ad299, A299_2, c299_2, e299, hx299_0, hx299_1, hx299_2, hx299_3, hx299_4, hl299_2, hi299_2⟩ := at_T48 HR2.out x11_2 p299 q299
                        obtain rfl : ad297 = ad299 := (by injection e299)
                        replace hx299_0 := (HB.out.cell (World.block_lt_of_cell? w _ hx299_0)).trans hx299_0
                        replace hx299_1 := (HB.out.cell (World.block_lt_of_cell? w _ hx299_1)).trans hx299_1
                        replace hx299_2 := (HB.out.cell (World.block_lt_of_cell? w _ hx299_2)).trans hx299_2
                        replace hx299_3 := (HB.out.cell (World.block_lt_of_cell? w _ hx299_3)).trans hx299_3
                        replace hx299_4 := (HB.out.cell (World.block_lt_of_cell? w _ hx299_4)).trans hx299_4
                        have HR299_2 := Aside0.mk hi299_2
                        have HC299_2 := Aside0.mk hl299_2
                        clear hi299_2 hl299_2
                        replace p299 := eq_true p299
                        replace q299 := eq_true q299
                        have ea_ := Option.some.inj (hx297_2.symm.trans hx299_2)
                        injection ea_ with ea_ en_ ec_
                        subst ea_
                        subst ec_
                        clear en_
                        have hnb29 := NB286_296.out
                        have hnc29 := NB296_286.out
                        have hcz30_0 : wr.cell? ⟨gb286, 0, none⟩ = some (.int .i64 x287000_2) := (blk_cell BK286.out 0).trans rfl
                        have hcz30_1 : wr.cell? ⟨gb286, 1, none⟩ = some (.int .i64 x287001_2) := (blk_cell BK286.out 1).trans rfl
                        have hcz30_2 : wr.cell? ⟨gb286, 2, none⟩ = some (.slice none 0 0) := (blk_cell BK286.out 2).trans rfl
                        have hfz30_0 := blk_frozen BK286.out 0
                        have hfz30_1 := blk_frozen BK286.out 1
                        have hfz30_2 := blk_frozen BK286.out 2
                        go_wp2
                        refine bodyPost_ret (results_ct rfl _ _ gb286 24 #[.int .i64 0, .int .i64 0, .slice none 0 0] (0, 0) _ rfl (by (with_reducible repeat (first | refine blk_drewN ?_ _ | refine blk_drew ?_ | refine blk_alloc ?_ _)); refine blk_put (cs := #[.int .i64 0, .int .i64 0, .slice none 0 0]) ?_ 2 _ rfl; (with_reducible repeat (first | refine blk_drewN ?_ _ | refine blk_drew ?_ | refine blk_alloc ?_ _)); refine blk_put (cs := #[.int .i64 0, .int .i64 x287001_2, .slice none 0 0]) ?_ 1 _ rfl; (with_reducible repeat (first | refine blk_drewN ?_ _ | refine blk_drew ?_ | refine blk_alloc ?_ _)); refine blk_put (cs := #[.int .i64 x287000_2, .int .i64 x287001_2, .slice none 0 0]) ?_ 0 _ rfl; exact bU BK286.out) Try.underlying24 rfl (by kernel_rfl)) rfl ?_
                        exact ⟨_, by first | rfl | (simp [errW_none, errW_some] <;> rfl) | (simp [*, errW_none, errW_some] <;> rfl), by first | exact Kd.R_nil _ _ _ _ _ | exact Kd.N_nil _ _ _ _ _ | exact Kd.V_nil _ _ _ _ _ | exact Kd.Q_nil _ _ _ _ _ | exact Kd.S_nil _ _ _ _ _, by repeat (first | (with_reducible first | exact HB.out | apply below_alloc | apply pw_below_drewN | apply below_drew1 | refine below_set ?_ GE286.out | refine below_set ?_ GE296.out) | exact HB.out)⟩
                      · rw [if_neg c28] at H
                        have c28b0 : decide (((rd_T48 l2 x11_2).f2) < (-100000)) = false := decide_eq_false c28
                        clear c28
                        by_cases c31 : ((rd_T48 l2 x11_2).f2) > 100000
                        · rw [if_pos c31] at H
                          have c31b0 : decide (100000 < ((rd_T48 l2 x11_2).f2)) = true := decide_eq_true c31
                          clear c31
                          simp only [Option.some.injEq, Prod.mk.injEq] at H
                          obtain ⟨rfl, rfl, rfl, rfl⟩ := H
                          have p297 : 0 ≤ (x11_2 : Int) := of_decide_eq_true (by first | (with_reducible assumption) | assumption)
                          have q297 : x11_2 < (l2.length : Int) := of_decide_eq_true (by first | (with_reducible assumption) | assumption)
                          obtain ⟨ad297, A297_2, c297_2, e297, hx297_0, hx297_1, hx297_2, hx297_3, hx297_4, hl297_2, hi297_2⟩ := at_T48 HR2.out x11_2 p297 q297
                          cases e297
                          replace hx297_0 := (HB.out.cell (World.block_lt_of_cell? w _ hx297_0)).trans hx297_0
                          replace hx297_1 := (HB.out.cell (World.block_lt_of_cell? w _ hx297_1)).trans hx297_1
                          replace hx297_2 := (HB.out.cell (World.block_lt_of_cell? w _ hx297_2)).trans hx297_2
                          replace hx297_3 := (HB.out.cell (World.block_lt_of_cell? w _ hx297_3)).trans hx297_3
                          replace hx297_4 := (HB.out.cell (World.block_lt_of_cell? w _ hx297_4)).trans hx297_4
                          have HR297_2 := Aside0.mk hi297_2
                          have HC297_2 := Aside0.mk hl297_2
                          clear hi297_2 hl297_2
                          replace p297 := eq_true p297
                          replace q297 := eq_true q297
                          have p298 : 0 ≤ (x11_2 : Int) := of_decide_eq_true (by first | (with_reducible assumption) | assumption)
                          have q298 : x11_2 < (l2.length : Int) := of_decide_eq_true (by first | (with_reducible assumption) | assumption)
                          obtain ⟨ad298, A298_2, c298_2, e298, hx298_0, hx298_1, hx298_2, hx298_3, hx298_4, hl298_2, hi298_2⟩ := at_T48 HR2.out x11_2 p298 q298
                          obtain rfl : ad297 = ad298 := (by injection e298)
                          replace hx298_0 := (HB.out.cell (World.block_lt_of_cell? w _ hx298_0)).trans hx298_0
                          replace hx298_1 := (HB.out.cell (World.block_lt_of_cell? w _ hx298_1)).trans hx298_1
                          replace hx298_2 := (HB.out.cell (World.block_lt_of_cell? w _ hx298_2)).trans hx298_2
                          replace hx298_3 := (HB.out.cell (World.block_lt_of_cell? w _ hx298_3)).trans hx298_3
                          replace hx298_4 := (HB.out.cell (World.block_lt_of_cell? w _ hx298_4)).trans hx298_4
                          have HR298_2 := Aside0.mk hi298_2
                          have HC298_2 := Aside0.mk hl298_2
                          clear hi298_2 hl298_2
                          replace p298 := eq_true p298
                          replace q298 := eq_true q298
                          have ea_ := Option.some.inj (hx297_2.symm.trans hx298_2)
                          injection ea_ with ea_ en_ ec_
                          subst ea_
                          subst ec_
                          clear en_
                          have p299 : 0 ≤ (x11_2 : Int) := of_decide_eq_true (by first | (with_reducible assumption) | assumption)
                          have q299 : x11_2 < (l2.length : Int) := of_decide_eq_true (by first | (with_reducible assumption) | assumption)
                          obtain ⟨ad299, A299_2, c299_2, e299, hx299_0, hx299_1, hx299_2, hx299_3, hx299_4, hl299_2, hi299_2⟩ := at_T48 HR2.out x11_2 p299 q299
                          obtain rfl : ad297 = ad299 := (by injection e299)
                          replace hx299_0 := (HB.out.cell (World.block_lt_of_cell? w _ hx299_0)).trans hx299_0
                          replace hx299_1 := (HB.out.cell (World.block_lt_of_cell? w _ hx299_1)).trans hx299_1
                          replace hx299_2 := (HB.out.cell (World.block_lt_of_cell? w _ hx299_2)).trans hx299_2
                          replace hx299_3 := (HB.out.cell (World.block_lt_of_cell? w _ hx299_3)).trans hx299_3
                          replace hx299_4 := (HB.out.cell (World.block_lt_of_cell? w _ hx299_4)).trans hx299_4
                          have HR299_2 := Aside0.mk hi299_2
                          have HC299_2 := Aside0.mk hl299_2
                          clear hi299_2 hl299_2
                          replace p299 := eq_true p299
                          replace q299 := eq_true q299
                          have ea_ := Option.some.inj (hx297_2.symm.trans hx299_2)
                          injection ea_ with ea_ en_ ec_
                          subst ea_
                          subst ec_
                          clear en_
                          have p300 : 0 ≤ (x11_2 : Int) := of_decide_eq_true (by first | (with_reducible assumption) | assumption)
                          have q300 : x11_2 < (l2.length : Int) := of_decide_eq_true (by first | (with_reducible assumption) | assumption)
                          obtain ⟨ad300, A300_2, c300_2, e300, hx300_0, hx300_1, hx300_2, hx300_3, hx300_4, hl300_2, hi300_2⟩ := at_T48 HR2.out x11_2 p300 q300
                          obtain rfl : ad297 = ad300 := (by injection e300)
                          replace hx300_0 := (HB.out.cell (World.block_lt_of_cell? w _ hx300_0)).trans hx300_0
                          replace hx300_1 := (HB.out.cell (World.block_lt_of_cell? w _ hx300_1)).trans hx300_1
                          replace hx300_2 := (HB.out.cell (World.block_lt_of_cell? w _ hx300_2)).trans hx300_2
                          replace hx300_3 := (HB.out.cell (World.block_lt_of_cell? w _ hx300_3)).trans hx300_3
                          replace hx300_4 := (HB.out.cell (World.block_lt_of_cell? w _ hx300_4)).trans hx300_4
                          have HR300_2 := Aside0.mk hi300_2
                          have HC300_2 := Aside0.mk hl300_2
                          clear hi300_2 hl300_2
                          replace p300 := eq_true p300
                          replace q300 := eq_true q300
                          have ea_ := Option.some.inj (hx297_2.symm.trans hx300_2)
                          injection ea_ with ea_ en_ ec_
                          subst ea_
                          subst ec_
                          clear en_
                          have hnb32 := NB286_296.out
                          have hnc32 := NB296_286.out
                          have hcz33_0 : wr.cell? ⟨gb286, 0, none⟩ = some (.int .i64 x287000_2) := (blk_cell BK286.out 0).trans rfl
                          have hcz33_1 : wr.cell? ⟨gb286, 1, none⟩ = some (.int .i64 x287001_2) := (blk_cell BK286.out 1).trans rfl
                          have hcz33_2 : wr.cell? ⟨gb286, 2, none⟩ = some (.slice none 0 0) := (blk_cell BK286.out 2).trans rfl
                          have hfz33_0 := blk_frozen BK286.out 0
                          have hfz33_1 := blk_frozen BK286.out 1
                          have hfz33_2 := blk_frozen BK286.out 2
                          go_wp2
                          refine bodyPost_ret (results_ct rfl _ _ gb286 24 #[.int .i64 0, .int .i64 0, .slice none 0 0] (0, 0) _ rfl (by (with_reducible repeat (first | refine blk_drewN ?_ _ | refine blk_drew ?_ | refine blk_alloc ?_ _)); refine blk_put (cs := #[.int .i64 0, .int .i64 0, .slice none 0 0]) ?_ 2 _ rfl; (with_reducible repeat (first | refine blk_drewN ?_ _ | refine blk_drew ?_ | refine blk_alloc ?_ _)); refine blk_put (cs := #[.int .i64 0, .int .i64 x287001_2, .slice none 0 0]) ?_ 1 _ rfl; (with_reducible repeat (first | refine blk_drewN ?_ _ | refine blk_drew ?_ | refine blk_alloc ?_ _)); refine blk_put (cs := #[.int .i64 x287000_2, .int .i64 x287001_2, .slice none 0 0]) ?_ 0 _ rfl; exact bU BK286.out) Try.underlying24 rfl (by kernel_rfl)) rfl ?_
                          exact ⟨_, by first | rfl | (simp [errW_none, errW_some] <;> rfl) | (simp [*, errW_none, errW_some] <;> rfl), by first | exact Kd.R_nil _ _ _ _ _ | exact Kd.N_nil _ _ _ _ _ | exact Kd.V_nil _ _ _ _ _ | exact Kd.Q_nil _ _ _ _ _ | exact Kd.S_nil _ _ _ _ _, by repeat (first | (with_reducible first | exact HB.out | apply below_alloc | apply pw_below_drewN | apply below_drew1 | refine below_set ?_ GE286.out | refine below_set ?_ GE296.out) | exact HB.out)⟩
                        · rw [if_neg c31] at H
                          have c31b0 : decide (100000 < ((rd_T48 l2 x11_2).f2)) = false := decide_eq_false c31
                          clear c31
                          replace H := Option.bind_eq_some_iff.mp H
                          obtain ⟨t304, A340, H⟩ := H
                          replace H : (incunableref15_Draw.l1 k2 l2 (wrap64 (x11_2 + 1)) t290 t291 t304) = some (r1, r2, r3, r4) := H
                          have A34 := Aside0.mk A340
                          clear A340
                          have H' := Aside0.mk H
                          clear H
                          have p297 : 0 ≤ (x11_2 : Int) := of_decide_eq_true (by first | (with_reducible assumption) | assumption)
                          have q297 : x11_2 < (l2.length : Int) := of_decide_eq_true (by first | (with_reducible assumption) | assumption)
                          obtain ⟨ad297, A297_2, c297_2, e297, hx297_0, hx297_1, hx297_2, hx297_3, hx297_4, hl297_2, hi297_2⟩ := at_T48 HR2.out x11_2 p297 q297
                          cases e297
                          replace hx297_0 := (HB.out.cell (World.block_lt_of_cell? w _ hx297_0)).trans hx297_0
                          replace hx297_1 := (HB.out.cell (World.block_lt_of_cell? w _ hx297_1)).trans hx297_1
                          replace hx297_2 := (HB.out.cell (World.block_lt_of_cell? w _ hx297_2)).trans hx297_2
                          replace hx297_3 := (HB.out.cell (World.block_lt_of_cell? w _ hx297_3)).trans hx297_3
                          replace hx297_4 := (HB.out.cell (World.block_lt_of_cell? w _ hx297_4)).trans hx297_4
                          have HR297_2 := Aside0.mk hi297_2
                          have HC297_2 := Aside0.mk hl297_2
                          clear hi297_2 hl297_2
                          replace p297 := eq_true p297
                          replace q297 := eq_true q297
                          have p298 : 0 ≤ (x11_2 : Int) := of_decide_eq_true (by first | (with_reducible assumption) | assumption)
                          have q298 : x11_2 < (l2.length : Int) := of_decide_eq_true (by first | (with_reducible assumption) | assumption)
                          obtain ⟨ad298, A298_2, c298_2, e298, hx298_0, hx298_1, hx298_2, hx298_3, hx298_4, hl298_2, hi298_2⟩ := at_T48 HR2.out x11_2 p298 q298
                          obtain rfl : ad297 = ad298 := (by injection e298)
                          replace hx298_0 := (HB.out.cell (World.block_lt_of_cell? w _ hx298_0)).trans hx298_0
                          replace hx298_1 := (HB.out.cell (World.block_lt_of_cell? w _ hx298_1)).trans hx298_1
                          replace hx298_2 := (HB.out.cell (World.block_lt_of_cell? w _ hx298_2)).trans hx298_2
                          replace hx298_3 := (HB.out.cell (World.block_lt_of_cell? w _ hx298_3)).trans hx298_3
                          replace hx298_4 := (HB.out.cell (World.block_lt_of_cell? w _ hx298_4)).trans hx298_4
                          have HR298_2 := Aside0.mk hi298_2
                          have HC298_2 := Aside0.mk hl298_2
                          clear hi298_2 hl298_2
                          replace p298 := eq_true p298
                          replace q298 := eq_true q298
                          have ea_ := Option.some.inj (hx297_2.symm.trans hx298_2)
                          injection ea_ with ea_ en_ ec_
                          subst ea_
                          subst ec_
                          clear en_
                          have p299 : 0 ≤ (x11_2 : Int) := of_decide_eq_true (by first | (with_reducible assumption) | assumption)
                          have q299 : x11_2 < (l2.length : Int) := of_decide_eq_true (by first | (with_reducible assumption) | assumption)
                          obtain ⟨ad299, A299_2, c299_2, e299, hx299_0, hx299_1, hx299_2, hx299_3, hx299_4, hl299_2, hi299_2⟩ := at_T48 HR2.out x11_2 p299 q299
                          obtain rfl : ad297 = ad299 := (by injection e299)
                          replace hx299_0 := (HB.out.cell (World.block_lt_of_cell? w _ hx299_0)).trans hx299_0
                          replace hx299_1 := (HB.out.cell (World.block_lt_of_cell? w _ hx299_1)).trans hx299_1
                          replace hx299_2 := (HB.out.cell (World.block_lt_of_cell? w _ hx299_2)).trans hx299_2
                          replace hx299_3 := (HB.out.cell (World.block_lt_of_cell? w _ hx299_3)).trans hx299_3
                          replace hx299_4 := (HB.out.cell (World.block_lt_of_cell? w _ hx299_4)).trans hx299_4
                          have HR299_2 := Aside0.mk hi299_2
                          have HC299_2 := Aside0.mk hl299_2
                          clear hi299_2 hl299_2
                          replace p299 := eq_true p299
                          replace q299 := eq_true q299
                          have ea_ := Option.some.inj (hx297_2.symm.trans hx299_2)
                          injection ea_ with ea_ en_ ec_
                          subst ea_
                          subst ec_
                          clear en_
                          have p300 : 0 ≤ (x11_2 : Int) := of_decide_eq_true (by first | (with_reducible assumption) | assumption)
                          have q300 : x11_2 < (l2.length : Int) := of_decide_eq_true (by first | (with_reducible assumption) | assumption)
                          obtain ⟨ad300, A300_2, c300_2, e300, hx300_0, hx300_1, hx300_2, hx300_3, hx300_4, hl300_2, hi300_2⟩ := at_T48 HR2.out x11_2 p300 q300
                          obtain rfl : ad297 = ad300 := (by injection e300)
                          replace hx300_0 := (HB.out.cell (World.block_lt_of_cell? w _ hx300_0)).trans hx300_0
                          replace hx300_1 := (HB.out.cell (World.block_lt_of_cell? w _ hx300_1)).trans hx300_1
                          replace hx300_2 := (HB.out.cell (World.block_lt_of_cell? w _ hx300_2)).trans hx300_2
                          replace hx300_3 := (HB.out.cell (World.block_lt_of_cell? w _ hx300_3)).trans hx300_3
                          replace hx300_4 := (HB.out.cell (World.block_lt_of_cell? w _ hx300_4)).trans hx300_4
                          have HR300_2 := Aside0.mk hi300_2
                          have HC300_2 := Aside0.mk hl300_2
                          clear hi300_2 hl300_2
                          replace p300 := eq_true p300
                          replace q300 := eq_true q300
                          have ea_ := Option.some.inj (hx297_2.symm.trans hx300_2)
                          injection ea_ with ea_ en_ ec_
                          subst ea_
                          subst ec_
                          clear en_
                          try go_wp2
                          have n0_ := Aside0.mk (Kd.R_drew HO_297002.out)
                          have n1_ := Aside0.mk (blk_drew BK286.out)
                          have n2_ := Aside0.mk (blk_drew BK296.out)
                          have n3_ := Aside0.mk (below_drew1 HB.out)
                          clear HO_297002
                          clear BK286
                          clear BK296
                          clear HB
                          have HO_297002 := n0_
                          have BK286 := n1_
                          have BK296 := n2_
                          have HB := n3_
                          clear n0_ n1_ n2_ n3_
                          have p301 : 0 ≤ (x11_2 : Int) := of_decide_eq_true (by first | (with_reducible assumption) | assumption)
                          have q301 : x11_2 < (l2.length : Int) := of_decide_eq_true (by first | (with_reducible assumption) | assumption)
                          obtain ⟨ad301, A301_2, c301_2, e301, hx301_0, hx301_1, hx301_2, hx301_3, hx301_4, hl301_2, hi301_2⟩ := at_T48 HR2.out x11_2 p301 q301
                          have hw301_4 := hx301_4
                          have hw301_3 := hx301_3
                          have hw301_2 := hx301_2
                          have hw301_1 := hx301_1
                          have hw301_0 := hx301_0
                          obtain rfl : ad297 = ad301 := (by injection e301)
                          replace hx301_0 := (HB.out.cell (World.block_lt_of_cell? w _ hx301_0)).trans hx301_0
                          replace hx301_1 := (HB.out.cell (World.block_lt_of_cell? w _ hx301_1)).trans hx301_1
                          replace hx301_2 := (HB.out.cell (World.block_lt_of_cell? w _ hx301_2)).trans hx301_2
                          replace hx301_3 := (HB.out.cell (World.block_lt_of_cell? w _ hx301_3)).trans hx301_3
                          replace hx301_4 := (HB.out.cell (World.block_lt_of_cell? w _ hx301_4)).trans hx301_4
                          have HR301_2 := Aside0.mk hi301_2
                          have HC301_2 := Aside0.mk hl301_2
                          clear hi301_2 hl301_2
                          replace p301 := eq_true p301
                          replace q301 := eq_true q301
                          have p302 : 0 ≤ (x11_2 : Int) := of_decide_eq_true (by first | (with_reducible assumption) | assumption)
                          have q302 : x11_2 < (l2.length : Int) := of_decide_eq_true (by first | (with_reducible assumption) | assumption)
                          obtain ⟨ad302, A302_2, c302_2, e302, hx302_0, hx302_1, hx302_2, hx302_3, hx302_4, hl302_2, hi302_2⟩ := at_T48 HR2.out x11_2 p302 q302
                          have hw302_4 := hx302_4
                          have hw302_3 := hx302_3
                          have hw302_2 := hx302_2
                          have hw302_1 := hx302_1
                          have hw302_0 := hx302_0
                          obtain rfl : ad297 = ad302 := (by injection e302)
                          replace hx302_0 := (HB.out.cell (World.block_lt_of_cell? w _ hx302_0)).trans hx302_0
                          replace hx302_1 := (HB.out.cell (World.block_lt_of_cell? w _ hx302_1)).trans hx302_1
                          replace hx302_2 := (HB.out.cell (World.block_lt_of_cell? w _ hx302_2)).trans hx302_2
                          replace hx302_3 := (HB.out.cell (World.block_lt_of_cell? w _ hx302_3)).trans hx302_3
                          replace hx302_4 := (HB.out.cell (World.block_lt_of_cell? w _ hx302_4)).trans hx302_4
                          have HR302_2 := Aside0.mk hi302_2
                          have HC302_2 := Aside0.mk hl302_2
                          clear hi302_2 hl302_2
                          replace p302 := eq_true p302
                          replace q302 := eq_true q302
                          have ea_ := Option.some.inj (hx301_2.symm.trans hx302_2)
                          injection ea_ with ea_ en_ ec_
                          subst ea_
                          subst ec_
                          clear en_
                          have p303 : 0 ≤ (x11_2 : Int) := of_decide_eq_true (by first | (with_reducible assumption) | assumption)
                          have q303 : x11_2 < (l2.length : Int) := of_decide_eq_true (by first | (with_reducible assumption) | assumption)
                          obtain ⟨ad303, A303_2, c303_2, e303, hx303_0, hx303_1, hx303_2, hx303_3, hx303_4, hl303_2, hi303_2⟩ := at_T48 HR2.out x11_2 p303 q303
                          have hw303_4 := hx303_4
                          have hw303_3 := hx303_3
                          have hw303_2 := hx303_2
                          have hw303_1 := hx303_1
                          have hw303_0 := hx303_0
                          obtain rfl : ad297 = ad303 := (by injection e303)
                          replace hx303_0 := (HB.out.cell (World.block_lt_of_cell? w _ hx303_0)).trans hx303_0
                          replace hx303_1 := (HB.out.cell (World.block_lt_of_cell? w _ hx303_1)).trans hx303_1
                          replace hx303_2 := (HB.out.cell (World.block_lt_of_cell? w _ hx303_2)).trans hx303_2
                          replace hx303_3 := (HB.out.cell (World.block_lt_of_cell? w _ hx303_3)).trans hx303_3
                          replace hx303_4 := (HB.out.cell (World.block_lt_of_cell? w _ hx303_4)).trans hx303_4
                          have HR303_2 := Aside0.mk hi303_2
                          have HC303_2 := Aside0.mk hl303_2
                          clear hi303_2 hl303_2
                          replace p303 := eq_true p303
                          replace q303 := eq_true q303
                          have ea_ := Option.some.inj (hx301_2.symm.trans hx303_2)
                          injection ea_ with ea_ en_ ec_
                          subst ea_
                          subst ec_
                          clear en_
                          obtain ⟨Ao36, co36, eo36⟩ := Kd.R_slice HO_297002.out
                          (first | subst eo36 | (injection eo36 with f1_ f2_ f3_; have f4_ := f1_.symm; have f5_ := f3_.symm; clear f1_ f2_ f3_; subst f4_; subst f5_))
                          refine start_ (n := 17) (S := fun w' => w'.cell? ⟨gb296, 0, none⟩ = some (.int .i64 t290) ∧ w'.cell? ⟨gb296, 1, none⟩ = some (.int .i64 t291) ∧ w'.cell? ⟨gb296, 2, none⟩ = some (.slice Ao36 x297002_2.length co36) ∧ w'.cell? (ad297.add ((x11_2).toNat * 5)) = some (.int .i64 ((rd_T48 l2 x11_2).f0.f0)) ∧ w'.cell? ⟨(ad297.add ((x11_2).toNat * 5)).block, (ad297.add ((x11_2).toNat * 5)).off + 1, none⟩ = some (.int .i64 ((rd_T48 l2 x11_2).f0.f1)) ∧ w'.cell? ⟨(ad297.add ((x11_2).toNat * 5)).block, (ad297.add ((x11_2).toNat * 5)).off + 2, none⟩ = some (.slice A301_2 ((rd_T48 l2 x11_2).f0.f2).length c301_2) ∧ w'.cell? ⟨(ad297.add ((x11_2).toNat * 5)).block, (ad297.add ((x11_2).toNat * 5)).off + 3, none⟩ = some (.int .i64 ((rd_T48 l2 x11_2).f1)) ∧ w'.cell? ⟨(ad297.add ((x11_2).toNat * 5)).block, (ad297.add ((x11_2).toNat * 5)).off + 4, none⟩ = some (.int .i64 ((rd_T48 l2 x11_2).f2)) ∧ w'.cell? (ad297.add ((x11_2).toNat * 5)) = some (.int .i64 ((rd_T48 l2 x11_2).f0.f0)) ∧ w'.cell? ⟨(ad297.add ((x11_2).toNat * 5)).block, (ad297.add ((x11_2).toNat * 5)).off + 1, none⟩ = some (.int .i64 ((rd_T48 l2 x11_2).f0.f1)) ∧ w'.cell? ⟨(ad297.add ((x11_2).toNat * 5)).block, (ad297.add ((x11_2).toNat * 5)).off + 2, none⟩ = some (.slice A301_2 ((rd_T48 l2 x11_2).f0.f2).length c301_2) ∧ w'.cell? ⟨(ad297.add ((x11_2).toNat * 5)).block, (ad297.add ((x11_2).toNat * 5)).off + 3, none⟩ = some (.int .i64 ((rd_T48 l2 x11_2).f1)) ∧ w'.cell? ⟨(ad297.add ((x11_2).toNat * 5)).block, (ad297.add ((x11_2).toNat * 5)).off + 4, none⟩ = some (.int .i64 ((rd_T48 l2 x11_2).f2)) ∧ w'.cell? (ad297.add ((x11_2).toNat * 5)) = some (.int .i64 ((rd_T48 l2 x11_2).f0.f0)) ∧ w'.cell? ⟨(ad297.add ((x11_2).toNat * 5)).block, (ad297.add ((x11_2).toNat * 5)).off + 1, none⟩ = some (.int .i64 ((rd_T48 l2 x11_2).f0.f1)) ∧ w'.cell? ⟨(ad297.add ((x11_2).toNat * 5)).block, (ad297.add ((x11_2).toNat * 5)).off + 2, none⟩ = some (.slice A301_2 ((rd_T48 l2 x11_2).f0.f2).length c301_2) ∧ w'.cell? ⟨(ad297.add ((x11_2).toNat * 5)).block, (ad297.add ((x11_2).toNat * 5)).off + 3, none⟩ = some (.int .i64 ((rd_T48 l2 x11_2).f1)) ∧ w'.cell? ⟨(ad297.add ((x11_2).toNat * 5)).block, (ad297.add ((x11_2).toNat * 5)).off + 4, none⟩ = some (.int .i64 ((rd_T48 l2 x11_2).f2))) (ds := []) #[false, false, false, false, false, false, false, false, false, false, false, false, false, false, false, false, false] (by kernel_rfl) rfl rfl ⟨(blk_cell BK296.out 0).trans rfl, (blk_cell BK296.out 1).trans rfl, (blk_cell BK296.out 2).trans rfl, ((HB.out.cell (World.block_lt_of_cell? w _ hw301_0)).trans hw301_0), ((HB.out.cell (World.block_lt_of_cell? w _ hw301_1)).trans hw301_1), ((HB.out.cell (World.block_lt_of_cell? w _ hw301_2)).trans hw301_2), ((HB.out.cell (World.block_lt_of_cell? w _ hw301_3)).trans hw301_3), ((HB.out.cell (World.block_lt_of_cell? w _ hw301_4)).trans hw301_4), ((HB.out.cell (World.block_lt_of_cell? w _ hw302_0)).trans hw302_0), ((HB.out.cell (World.block_lt_of_cell? w _ hw302_1)).trans hw302_1), ((HB.out.cell (World.block_lt_of_cell? w _ hw302_2)).trans hw302_2), ((HB.out.cell (World.block_lt_of_cell? w _ hw302_3)).trans hw302_3), ((HB.out.cell (World.block_lt_of_cell? w _ hw302_4)).trans hw302_4), ((HB.out.cell (World.block_lt_of_cell? w _ hw303_0)).trans hw303_0), ((HB.out.cell (World.block_lt_of_cell? w _ hw303_1)).trans hw303_1), ((HB.out.cell (World.block_lt_of_cell? w _ hw303_2)).trans hw303_2), ((HB.out.cell (World.block_lt_of_cell? w _ hw303_3)).trans hw303_3), ((HB.out.cell (World.block_lt_of_cell? w _ hw303_4)).trans hw303_4)⟩ (fun hHeld => ?_); refine with_tabW incunableref15_Draw.tab14 incunableref15_Draw.bits14 (fun HT_ HW_ => ?_)
                          generalize wr.drew = w35 at HO_297002 BK286 BK296 HB HR301_2 HR302_2 HR303_2 hx301_0 hx301_1 hx301_2 hx301_3 hx301_4 hx302_0 hx302_1 hx302_2 hx302_3 hx302_4 hx303_0 hx303_1 hx303_2 hx303_3 hx303_4 hHeld ⊢
                          refine pure_ (i := 1) (N := some 75) (v := ?_) (a' := ?_) #[false, true, false, false, false, false, false, false, false, false, false, false, false, false, false, false, false] rfl rfl (any_of HT_.out (by kernel_rfl)) (fun _ _ _ h => h) (Or.inl ⟨by rfl, ?_⟩) ?_ ?_
                          rotate_left
                          · intro w'
                            go_simp
                            with_reducible rfl
                          rotate_left
                          · simp only [Act.put, List.setIfInBounds_toArray, List.set_cons_zero, List.set_cons_succ, i64_w, i32_w]
                            rfl
                          refine pure_ (i := 2) (N := some 76) (v := ?_) (a' := ?_) #[false, true, true, false, false, false, false, false, false, false, false, false, false, false, false, false, false] rfl rfl (any_of HT_.out (by kernel_rfl)) (fun _ _ _ h => h) (Or.inl ⟨by rfl, ?_⟩) ?_ ?_
                          rotate_left
                          · intro w'
                            go_simp
                            with_reducible rfl
                          rotate_left
                          · simp only [Act.put, List.setIfInBounds_toArray, List.set_cons_zero, List.set_cons_succ, i64_w, i32_w]
                            rfl
                          refine pure_ (i := 3) (N := some 77) (v := ?_) (a' := ?_) #[false, true, true, true, false, false, false, false, false, false, false, false, false, false, false, false, false] rfl rfl (any_of HT_.out (by kernel_rfl)) (fun _ _ _ h => h) (Or.inl ⟨by rfl, ?_⟩) ?_ ?_
                          rotate_left
                          · intro w'
                            go_simp
                            with_reducible rfl
                          rotate_left
                          · simp only [Act.put, List.setIfInBounds_toArray, List.set_cons_zero, List.set_cons_succ, i64_w, i32_w]
                            rfl
                          refine pure_ (i := 4) (N := some 78) (v := ?_) (a' := ?_) #[false, true, true, true, true, false, false, false, false, false, false, false, false, false, false, false, false] rfl rfl (any_of HT_.out (by kernel_rfl)) (fun _ _ _ h => h) (Or.inl ⟨by rfl, ?_⟩) ?_ ?_
                          rotate_left
                          · intro w'
                            go_simp
                            with_reducible rfl
                          rotate_left
                          · simp only [Act.put, List.setIfInBounds_toArray, List.set_cons_zero, List.set_cons_succ, i64_w, i32_w]
                            rfl
                          refine pure_ (i := 6) (N := some 80) (v := ?_) (a' := ?_) #[false, true, true, true, true, false, true, false, false, false, false, false, false, false, false, false, false] rfl rfl (any_of HT_.out (by kernel_rfl)) (fun _ _ _ h => h) (Or.inl ⟨by rfl, ?_⟩) ?_ ?_
                          rotate_left
                          · intro w'
                            go_simp
                            with_reducible rfl
                          rotate_left
                          · simp only [Act.put, List.setIfInBounds_toArray, List.set_cons_zero, List.set_cons_succ, i64_w, i32_w]
                            rfl
                          refine pure_ (i := 7) (N := some 81) (v := ?_) (a' := ?_) #[false, true, true, true, true, false, true, true, false, false, false, false, false, false, false, false, false] rfl rfl (any_of HT_.out (by kernel_rfl)) (fun _ _ _ h => h) (Or.inl ⟨by rfl, ?_⟩) ?_ ?_
                          rotate_left
                          · intro w'
                            go_simp
                            with_reducible rfl
                          rotate_left
                          · simp only [Act.put, List.setIfInBounds_toArray, List.set_cons_zero, List.set_cons_succ, i64_w, i32_w]
                            rfl
                          refine pure_ (i := 8) (N := some 82) (v := ?_) (a' := ?_) #[false, true, true, true, true, false, true, true, true, false, false, false, false, false, false, false, false] rfl rfl (any_of HT_.out (by kernel_rfl)) (fun _ _ _ h => h) (Or.inl ⟨by rfl, ?_⟩) ?_ ?_
                          rotate_left
                          · intro w'
                            go_simp
                            with_reducible rfl
                          rotate_left
                          · simp only [Act.put, List.setIfInBounds_toArray, List.set_cons_zero, List.set_cons_succ, i64_w, i32_w]
                            rfl
                          refine pure_ (i := 9) (N := some 83) (v := ?_) (a' := ?_) #[false, true, true, true, true, false, true, true, true, true, false, false, false, false, false, false, false] rfl rfl (any_of HT_.out (by kernel_rfl)) (fun _ _ _ h => h) (Or.inl ⟨by rfl, ?_⟩) ?_ ?_
                          rotate_left
                          · intro w'
                            go_simp
                            with_reducible rfl
                          rotate_left
                          · simp only [Act.put, List.setIfInBounds_toArray, List.set_cons_zero, List.set_cons_succ, i64_w, i32_w]
                            rfl
                          refine pure_ (i := 11) (N := some 85) (v := ?_) (a' := ?_) #[false, true, true, true, true, false, true, true, true, true, false, true, false, false, false, false, false] rfl rfl (any_of HT_.out (by kernel_rfl)) (fun _ _ _ h => h) (Or.inl ⟨by rfl, ?_⟩) ?_ ?_
                          rotate_left
                          · intro w'
                            go_simp
                            with_reducible rfl
                          rotate_left
                          · simp only [Act.put, List.setIfInBounds_toArray, List.set_cons_zero, List.set_cons_succ, i64_w, i32_w]
                            rfl
                          refine pure_ (i := 12) (N := some 86) (v := ?_) (a' := ?_) #[false, true, true, true, true, false, true, true, true, true, false, true, true, false, false, false, false] rfl rfl (any_of HT_.out (by kernel_rfl)) (fun _ _ _ h => h) (Or.inl ⟨by rfl, ?_⟩) ?_ ?_
                          rotate_left
                          · intro w'
                            go_simp
                            with_reducible rfl
                          rotate_left
                          · simp only [Act.put, List.setIfInBounds_toArray, List.set_cons_zero, List.set_cons_succ, i64_w, i32_w]
                            rfl
                          refine pure_ (i := 13) (N := some 87) (v := ?_) (a' := ?_) #[false, true, true, true, true, false, true, true, true, true, false, true, true, true, false, false, false] rfl rfl (any_of HT_.out (by kernel_rfl)) (fun _ _ _ h => h) (Or.inl ⟨by rfl, ?_⟩) ?_ ?_
                          rotate_left
                          · intro w'
                            go_simp
                            with_reducible rfl
                          rotate_left
                          · simp only [Act.put, List.setIfInBounds_toArray, List.set_cons_zero, List.set_cons_succ, i64_w, i32_w]
                            rfl
                          refine pure_ (i := 14) (N := some 88) (v := ?_) (a' := ?_) #[false, true, true, true, true, false, true, true, true, true, false, true, true, true, true, false, false] rfl rfl (any_of HT_.out (by kernel_rfl)) (fun _ _ _ h => h) (Or.inl ⟨by rfl, ?_⟩) ?_ ?_
                          rotate_left
                          · intro w'
                            go_simp
                            with_reducible rfl
                          rotate_left
                          · simp only [Act.put, List.setIfInBounds_toArray, List.set_cons_zero, List.set_cons_succ, i64_w, i32_w]
                            rfl
                          refine take_ (i := 0) (N := some 74) (v := ?_) (a' := ?_) #[true, true, true, true, true, false, true, true, true, true, false, true, true, true, true, false, false] rfl rfl (take_ofW HT_.out HW_.out (by kernel_rfl)) (fun _ _ _ h => h) (Or.inl ⟨by rfl, ?_⟩) hHeld ?_ ?_
                          rotate_left
                          · rintro w' ⟨s0, s1, s2, s3, s4, s5, s6, s7, s8, s9, s10, s11, s12, s13, s14, s15, s16, s17⟩
                            go_simp
                            with_reducible rfl
                          rotate_left
                          · simp only [Act.put, List.setIfInBounds_toArray, List.set_cons_zero, List.set_cons_succ, i64_w, i32_w]
                            rfl
                          refine take_ (i := 5) (N := some 79) (v := ?_) (a' := ?_) #[true, true, true, true, true, true, true, true, true, true, false, true, true, true, true, false, false] rfl rfl (take_ofW HT_.out HW_.out (by kernel_rfl)) (fun _ _ _ h => h) (Or.inl ⟨by rfl, ?_⟩) hHeld ?_ ?_
                          rotate_left
                          · rintro w' ⟨s0, s1, s2, s3, s4, s5, s6, s7, s8, s9, s10, s11, s12, s13, s14, s15, s16, s17⟩
                            go_simp
                            with_reducible rfl
                          rotate_left
                          · simp only [Act.put, List.setIfInBounds_toArray, List.set_cons_zero, List.set_cons_succ, i64_w, i32_w]
                            rfl
                          refine take_ (i := 10) (N := some 84) (v := ?_) (a' := ?_) #[true, true, true, true, true, true, true, true, true, true, true, true, true, true, true, false, false] rfl rfl (take_ofW HT_.out HW_.out (by kernel_rfl)) (fun _ _ _ h => h) (Or.inl ⟨by rfl, ?_⟩) hHeld ?_ ?_
                          rotate_left
                          · rintro w' ⟨s0, s1, s2, s3, s4, s5, s6, s7, s8, s9, s10, s11, s12, s13, s14, s15, s16, s17⟩
                            go_simp
                            with_reducible rfl
                          rotate_left
                          · simp only [Act.put, List.setIfInBounds_toArray, List.set_cons_zero, List.set_cons_succ, i64_w, i32_w]
                            rfl
                          refine take_ (i := 15) (N := some 89) (v := ?_) (a' := ?_) #[true, true, true, true, true, true, true, true, true, true, true, true, true, true, true, true, false] rfl rfl (take_ofW HT_.out HW_.out (by kernel_rfl)) (fun _ _ _ h => h) (Or.inl ⟨by rfl, ?_⟩) hHeld ?_ ?_
                          rotate_left
                          · rintro w' ⟨s0, s1, s2, s3, s4, s5, s6, s7, s8, s9, s10, s11, s12, s13, s14, s15, s16, s17⟩
                            go_simp
                            with_reducible rfl
                          rotate_left
                          · simp only [Act.put, List.setIfInBounds_toArray, List.set_cons_zero, List.set_cons_succ, i64_w, i32_w]
                            rfl
                          refine one_ (i := 16) (N := some 90) #[true, true, true, true, true, true, true, true, true, true, true, true, true, true, true, true, true] rfl rfl (one_of HT_.out (by kernel_rfl)) (by decide) (fun K hK => ?_)
                          refine goes_ Try.func60 (by kernel_rfl) rfl #[.agg #[.int .i64 t290, .int .i64 t291, .slice Ao36 x297002_2.length co36], .agg #[.int .i64 ((rd_T48 l2 x11_2).f0.f0), .int .i64 ((rd_T48 l2 x11_2).f0.f1), .slice A301_2 ((rd_T48 l2 x11_2).f0.f2).length c301_2], .int .i64 ((rd_T48 l2 x11_2).f1), .int .i64 ((rd_T48 l2 x11_2).f2), .int .i64 1] (by rfl) rfl rfl (by (try simp only [List.map_toArray, List.map_cons, List.map_nil]); first | done | rfl | (simp only [List.length_drop, List.length_take]; rfl)) ?_
                          with_reducible refine (incunableref05_Lay.calls k2 t290 t291 (fun k_ => some k_ = (.slice Ao36 x297002_2.length co36 : Value).ownBlock) (.slice Ao36 x297002_2.length co36) x297002_2 ((rd_T48 l2 x11_2).f0.f0) ((rd_T48 l2 x11_2).f0.f1) _ _ ((rd_T48 l2 x11_2).f0.f2) ((rd_T48 l2 x11_2).f1) ((rd_T48 l2 x11_2).f2) 1 t304 w _ ?side1 ?side2 ?side3 ?side4 A34.out).mono ?_
                          (case side1 => repeat (first | (with_reducible first | exact HB.out | apply below_alloc | apply pw_below_drewN | apply below_drew1 | refine below_set ?_ GE286.out | refine below_set ?_ GE296.out) | exact HB.out))
                          (case side2 => exact Kd.R_tight rfl HO_297002.out)
                          (case side3 => exact Kd.C_kept_came (Kd.heap_int .u8) HR301_2.out (by repeat (first | (with_reducible first | exact HB.out | apply below_alloc | apply pw_below_drewN | apply below_drew1 | refine below_set ?_ GE286.out | refine below_set ?_ GE296.out) | exact HB.out)) (fun k_ hs_ => (fun e_ => Kd.R_base HO_297002.out k_ e_.symm) hs_))
                          (case side4 => exact HC301_2.out)
                          rintro e w37 ⟨rfl, hy0, hb, hkp⟩
                          refine ⟨_, rfl, ?_⟩
                          have n0_ := Aside0.mk (Kd.R_reok rfl hy0 (fun k_ e_ => HO_297002.out.1 k_ e_))
                          have n1_ := Aside0.mk (blk_kept (bU BK286.out) hkp (fun hs_ => (fun e_ => (Kd.R_ne HO_297002.out BK286.out (by decide)) e_) hs_))
                          have n2_ := Aside0.mk (blk_kept (bU BK296.out) hkp (fun hs_ => (fun e_ => (Kd.R_ne HO_297002.out BK296.out (by decide)) e_) hs_))
                          have n3_ := Aside0.mk (hb)
                          clear HO_297002
                          clear BK286
                          clear BK296
                          clear HB
                          have HO_297002 := n0_
                          have BK286 := n1_
                          have BK296 := n2_
                          have HB := n3_
                          clear n0_ n1_ n2_ n3_
                          (try clear hb)
                          (try clear hkp)
                          (try clear hy0)
                          refine hK.out _ _ ⟨(blk_cell BK296.out 0).trans rfl, (blk_cell BK296.out 1).trans rfl, (blk_cell BK296.out 2).trans rfl, ((HB.out.cell (World.block_lt_of_cell? w _ hw301_0)).trans hw301_0), ((HB.out.cell (World.block_lt_of_cell? w _ hw301_1)).trans hw301_1), ((HB.out.cell (World.block_lt_of_cell? w _ hw301_2)).trans hw301_2), ((HB.out.cell (World.block_lt_of_cell? w _ hw301_3)).trans hw301_3), ((HB.out.cell (World.block_lt_of_cell? w _ hw301_4)).trans hw301_4), ((HB.out.cell (World.block_lt_of_cell? w _ hw302_0)).trans hw302_0), ((HB.out.cell (World.block_lt_of_cell? w _ hw302_1)).trans hw302_1), ((HB.out.cell (World.block_lt_of_cell? w _ hw302_2)).trans hw302_2), ((HB.out.cell (World.block_lt_of_cell? w _ hw302_3)).trans hw302_3), ((HB.out.cell (World.block_lt_of_cell? w _ hw302_4)).trans hw302_4), ((HB.out.cell (World.block_lt_of_cell? w _ hw303_0)).trans hw303_0), ((HB.out.cell (World.block_lt_of_cell? w _ hw303_1)).trans hw303_1), ((HB.out.cell (World.block_lt_of_cell? w _ hw303_2)).trans hw303_2), ((HB.out.cell (World.block_lt_of_cell? w _ hw303_3)).trans hw303_3), ((HB.out.cell (World.block_lt_of_cell? w _ hw303_4)).trans hw303_4)⟩ (fun hHeld => ?_)
                          clear hK K
                          refine norm_ (a' := ?_) ?_ ?_
                          rotate_left
                          · show Act.put _ (some 90) _ = _
                            simp only [Act.put, List.setIfInBounds_toArray, List.set_cons_zero, List.set_cons_succ, i64_w, i32_w]
                            rfl
                          refine done_ (done_of HT_.out (by kernel_rfl)) ?_
                          try go_wp2
                          go_roundg k2
                          case measure => have := HK1.out; have := HK2.out; omega
                          case rel => exact ⟨(wrap64 (x11_2 + 1)), (x287000_2), (x287001_2), (t304), (.slice Ao36 x297002_2.length co36), (by first | rfl | (simp; done) | (simp [*]; done)), H', ⟨by have := HK1.out; have := HK2.out; omega⟩, ⟨by (with_reducible repeat (first | apply Kd.R_alloc | apply Kd.R_drewN | apply Kd.R_drew)); exact HO_297002.out⟩, ⟨by exact bU BK286.out⟩, ⟨by exact bU BK296.out⟩, ⟨by repeat (first | (with_reducible first | exact HB.out | apply below_alloc | apply pw_below_drewN | apply below_drew1 | refine below_set ?_ GE286.out | refine below_set ?_ GE296.out) | exact HB.out)⟩⟩
                · rw [if_neg c21] at H
                  exact absurd H (by simp)
              · rw [if_neg c20] at H
                have c20b0 : decide (x11_2 < (l2.length : Int)) = false := decide_eq_false c20
                clear c20
                simp only [Option.some.injEq, Prod.mk.injEq] at H
                obtain ⟨rfl, rfl, rfl, rfl⟩ := H
                have hnb38 := NB296_286.out
                have hnc38 := NB286_296.out
                have hcz39_0 : wr.cell? ⟨gb296, 0, none⟩ = some (.int .i64 t290) := (blk_cell BK296.out 0).trans rfl
                have hcz39_1 : wr.cell? ⟨gb296, 1, none⟩ = some (.int .i64 t291) := (blk_cell BK296.out 1).trans rfl
                have hcz39_2 : wr.cell? ⟨gb296, 2, none⟩ = some (u297002) := (blk_cell BK296.out 2).trans rfl
                have hfz39_0 := blk_frozen BK296.out 0
                have hfz39_1 := blk_frozen BK296.out 1
                have hfz39_2 := blk_frozen BK296.out 2
                have hcz40_0 : wr.cell? ⟨gb286, 0, none⟩ = some (.int .i64 x287000_2) := (blk_cell BK286.out 0).trans rfl
                have hcz40_1 : wr.cell? ⟨gb286, 1, none⟩ = some (.int .i64 x287001_2) := (blk_cell BK286.out 1).trans rfl
                have hcz40_2 : wr.cell? ⟨gb286, 2, none⟩ = some (.slice none 0 0) := (blk_cell BK286.out 2).trans rfl
                have hfz40_0 := blk_frozen BK286.out 0
                have hfz40_1 := blk_frozen BK286.out 1
                have hfz40_2 := blk_frozen BK286.out 2
                obtain ⟨Ao41, co41, eo41⟩ := Kd.R_slice HO_297002.out
                subst eo41
                go_wp2
                refine bodyPost_ret (results_ct rfl _ _ gb286 24 #[.int .i64 t290, .int .i64 t291, .slice Ao41 x297002_2.length co41] (0, 0) _ rfl (by (with_reducible repeat (first | refine blk_drewN ?_ _ | refine blk_drew ?_ | refine blk_alloc ?_ _)); refine blk_put (cs := #[.int .i64 t290, .int .i64 t291, .slice none 0 0]) ?_ 2 _ rfl; (with_reducible repeat (first | refine blk_drewN ?_ _ | refine blk_drew ?_ | refine blk_alloc ?_ _)); refine blk_put (cs := #[.int .i64 t290, .int .i64 x287001_2, .slice none 0 0]) ?_ 1 _ rfl; (with_reducible repeat (first | refine blk_drewN ?_ _ | refine blk_drew ?_ | refine blk_alloc ?_ _)); refine blk_put (cs := #[.int .i64 x287000_2, .int .i64 x287001_2, .slice none 0 0]) ?_ 0 _ rfl; exact bU BK286.out) Try.underlying24 rfl (by kernel_rfl)) rfl ?_
                exact ⟨_, by first | rfl | (simp [errW_none, errW_some] <;> rfl) | (simp [*, errW_none, errW_some] <;> rfl), by (with_reducible repeat (first | apply Kd.R_alloc | apply Kd.R_drewN | apply Kd.R_drew)); exact Kd.R_mono (Kd.R_far (p := ⟨gb286, 2, none⟩) (Kd.R_far (p := ⟨gb286, 1, none⟩) (Kd.R_far (p := ⟨gb286, 0, none⟩) (Kd.R_types HO_297002.out BK286.out (by decide)) (fun _ hk => hk.2) (.int .i64 t290)) (fun _ hk => hk.2) (.int .i64 t291)) (fun _ hk => hk.2) (.slice Ao41 x297002_2.length co41)) (fun _ hk => trivial), by repeat (first | (with_reducible first | exact HB.out | apply below_alloc | apply pw_below_drewN | apply below_drew1 | refine below_set ?_ GE286.out | refine below_set ?_ GE296.out) | exact HB.out)⟩
  · replace c5 := Bool.eq_false_iff.mpr c5
    subst c5
    have H1 : (some (0, 0, ([] : List Int), 30)) = some (r1, r2, r3, r4) := by rw [if_neg (show ¬ (false = true) by decide)] at H; exact H
    clear H
    have H := H1
    clear H1
    simp only [Option.some.injEq, Prod.mk.injEq] at H
    obtain ⟨rfl, rfl, rfl, rfl⟩ := H
    go_enter Try.func28, Try.ntmps28
    go_wp2_with (first | ((with_reducible refine gate_dst (N := 6) rfl ?_); refine box_event ?hg (N := 6) ?hd (cs := #[.int .i64 0, .int .i64 0, .slice none 0 0]) (t := 24) ?hr ?_; (case hd => rfl); (case hg => rfl); (case hr => first | (go_simp; done) | (go_simp; rfl)); intro gb286 hg w42 hbox hb; have n0_ := Aside0.mk (below_step (by repeat (first | (with_reducible first | exact HB.out | apply below_alloc | apply pw_below_drewN | apply below_drew1) | exact HB.out)) hb); have n1_ := Aside0.mk (hbox); have n2_ := Aside0.mk ((by rw [hg]; exact (below_size (by repeat (first | (with_reducible first | exact HB.out | apply below_alloc | apply pw_below_drewN | apply below_drew1) | exact HB.out))) : w.heap.size ≤ gb286)); have n3_ := Aside0.mk ((by rw [hg]; exact (below_size (by repeat (first | (with_reducible first | exact HB.out | apply below_alloc | apply pw_below_drewN | apply below_drew1) | exact HB.out))) : w.heap.size ≤ gb286)); clear HB; have HB := n0_; have BK286 := n1_; have GW286 := n2_; have GE286 := n3_; clear n0_ n1_ n2_ n3_; clear hb hbox hg) | ((with_reducible refine gate_callee (f := 58) rfl ?_); refine goesL_ (some 14) rfl rfl Try.func58 (by kernel_rfl) rfl #[.int .i64 a0, .int .i64 a1] rfl (by (try simp only [List.map_toArray, List.map_cons, List.map_nil]); first | done | rfl | (simp only [List.length_drop, List.length_take]; rfl)) ?_; (with_reducible refine (incunableref05_Sides.calls a0 a1 false _ A4.out).mono ?_); rintro e w' ⟨rfl, ⟨nd, rfl⟩⟩; refine ⟨_, rfl, ?_⟩; (try (rw [drewN_self w42]; generalize hq_ : World.drewN w42 _ = w42; have n0_ : Aside0 (w42.heap[gb286]? = some (.cells #[.int .i64 0, .int .i64 0, .slice none 0 0] 24 (0, 0))) := ⟨by rw [← hq_]; exact (bU BK286.out)⟩; have n1_ : Aside0 (Below w.heap.size w w42) := ⟨by rw [← hq_]; exact (by repeat (first | (with_reducible first | exact HB.out | apply below_alloc | apply pw_below_drewN | apply below_drew1 | refine below_set ?_ GE286.out) | exact HB.out))⟩; clear BK286 HB hq_; have BK286 := n0_; have HB := n1_; clear n0_ n1_)); have hcz43_0 : w42.cell? ⟨gb286, 0, none⟩ = some (.int .i64 0) := (blk_cell BK286.out 0).trans rfl; have hcz43_1 : w42.cell? ⟨gb286, 1, none⟩ = some (.int .i64 0) := (blk_cell BK286.out 1).trans rfl; have hcz43_2 : w42.cell? ⟨gb286, 2, none⟩ = some (.slice none 0 0) := (blk_cell BK286.out 2).trans rfl; have hfz43_0 := blk_frozen BK286.out 0; have hfz43_1 := blk_frozen BK286.out 1; have hfz43_2 := blk_frozen BK286.out 2))
    refine bodyPost_ret (results_ct rfl _ _ gb286 24 #[.int .i64 0, .int .i64 0, .slice none 0 0] (0, 0) _ rfl (by (with_reducible repeat (first | refine blk_drewN ?_ _ | refine blk_drew ?_ | refine blk_alloc ?_ _)); refine blk_put (cs := #[.int .i64 0, .int .i64 0, .slice none 0 0]) ?_ 2 _ rfl; (with_reducible repeat (first | refine blk_drewN ?_ _ | refine blk_drew ?_ | refine blk_alloc ?_ _)); refine blk_put (cs := #[.int .i64 0, .int .i64 0, .slice none 0 0]) ?_ 1 _ rfl; (with_reducible repeat (first | refine blk_drewN ?_ _ | refine blk_drew ?_ | refine blk_alloc ?_ _)); refine blk_put (cs := #[.int .i64 0, .int .i64 0, .slice none 0 0]) ?_ 0 _ rfl; exact bU BK286.out) Try.underlying24 rfl (by kernel_rfl)) rfl ?_
    exact ⟨_, by first | rfl | (simp [errW_none, errW_some] <;> rfl) | (simp [*, errW_none, errW_some] <;> rfl), by first | exact Kd.R_nil _ _ _ _ _ | exact Kd.N_nil _ _ _ _ _ | exact Kd.V_nil _ _ _ _ _ | exact Kd.Q_nil _ _ _ _ _ | exact Kd.S_nil _ _ _ _ _, by repeat (first | (with_reducible first | exact HB.out | apply below_alloc | apply pw_below_drewN | apply below_drew1 | refine below_set ?_ GE286.out) | exact HB.out)⟩

end Go.Proofs.Ytaflekobfbgedaa.PShapeDraws
