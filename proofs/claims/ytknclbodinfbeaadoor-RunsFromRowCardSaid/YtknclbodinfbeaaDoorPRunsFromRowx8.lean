-- Written by a program of this session (wip/tools/myprint.py) over the kit's print. Not trusted: Lean checks it.
import Derived.Test.YtknclbodinfbeaaDoorPRunsFromRowx0
import Derived.Test.YtknclbodinfbeaaDoorPRunsFromRowx4
import Derived.Test.YtknclbodinfbeaaDoorPRunsFromRowx6
import Derived.Test.YtknclbodinfbeaaDoorPRunsFromRowx7
namespace Go.Proofs.YtknclbodinfbeaaDoor.PRunsFromRow
open Go.RowKit Go.Proofs.YtknclbodinfbeaaDoorW.PrintWords Go.Proofs.YtknclbodinfbeaaDoorW.PrintLast Go.Proofs.YtknclbodinfbeaaDoorW.PrintMore
attribute [local go_sem] max2_int min2_int max_two min_two max_three min_three max_four min_four   -- for this text's walks alone
set_option linter.unusedVariables false
set_option linter.unusedSimpArgs false

/-! ### incunableref06_FromRow: function 20 -/
mutual
def incunableref06_FromRow.l0 : Nat → List Int → Int → List Int → List Int → Int → Int → Option (List Int × Bool)
 | 0, _, _, _, _, _, _ => none
 | k + 1, x0, x1, x6, x10, x11, x12 => if x12 < x11 then (if 0 ≤ x12 then (if x12 < (x10.length : Int) then (if (rd x10 x12) < 0 then (incunableref06_FromRow.j1 k x0 x1 x6 x12 (rd x10 x12) x10 x11 x12 true) else (if (rd x10 x12) = 0 then (if x12 > 0 then (incunableref06_FromRow.j1 k x0 x1 x6 x12 (rd x10 x12) x10 x11 x12 true) else (incunableref06_FromRow.j1 k x0 x1 x6 x12 (rd x10 x12) x10 x11 x12 (decide ((rd x10 x12) > (wrap64 (x1 - (x6.length : Int))))))) else (incunableref06_FromRow.j1 k x0 x1 x6 x12 (rd x10 x12) x10 x11 x12 (decide ((rd x10 x12) > (wrap64 (x1 - (x6.length : Int)))))))) else (none)) else (none)) else (if (x6.length : Int) = x1 then (if x1 > 0 then (some (x6, true)) else (some (x6, ((x0.length : Int) == 0)))) else (some (x6, false)))
def incunableref06_FromRow.j1 : Nat → List Int → Int → List Int → Int → Int → List Int → Int → Int → Bool → Option (List Int × Bool)
 | 0, _, _, _, _, _, _, _, _, _ => none
 | k + 1, x0, x1, x6, x7, x8, x10, x11, x12, x34 => if x34 = true then (some (([] : List Int), false)) else (incunableref06_FromRow.l1 k x0 x1 x6 x7 x8 0 x10 x11 x12)
def incunableref06_FromRow.l1 : Nat → List Int → Int → List Int → Int → Int → Int → List Int → Int → Int → Option (List Int × Bool)
 | 0, _, _, _, _, _, _, _, _, _ => none
 | k + 1, x0, x1, x6, x7, x8, x9, x10, x11, x12 => if x9 < x8 then (if x6.length < 140737488355328 then (incunableref06_FromRow.l1 k x0 x1 (x6 ++ [(Int.tmod x7 2) % 256]) x7 x8 (wrap64 (x9 + 1)) x10 x11 x12) else (none)) else (incunableref06_FromRow.l0 k x0 x1 x6 x10 x11 (wrap64 (x12 + 1)))
end
def incunableref06_FromRow.f (k : Nat) (l0 : List Int) (a1 : Int) : Option (List Int × Bool) := incunableref06_FromRow.l0 k l0 a1 ([] : List Int) l0 (l0.length : Int) 0
theorem incunableref06_FromRow.mono_l : ∀ k, (∀ y0 y1 y2 y3 y4 y5, LeO (incunableref06_FromRow.l0 k y0 y1 y2 y3 y4 y5) (incunableref06_FromRow.l0 (k + 1) y0 y1 y2 y3 y4 y5)) ∧ (∀ y0 y1 y2 y3 y4 y5 y6 y7 y8, LeO (incunableref06_FromRow.j1 k y0 y1 y2 y3 y4 y5 y6 y7 y8) (incunableref06_FromRow.j1 (k + 1) y0 y1 y2 y3 y4 y5 y6 y7 y8)) ∧ (∀ y0 y1 y2 y3 y4 y5 y6 y7 y8, LeO (incunableref06_FromRow.l1 k y0 y1 y2 y3 y4 y5 y6 y7 y8) (incunableref06_FromRow.l1 (k + 1) y0 y1 y2 y3 y4 y5 y6 y7 y8))
 | 0 => ⟨fun _ _ _ _ _ _ r h => by simp [incunableref06_FromRow.l0] at h, fun _ _ _ _ _ _ _ _ _ r h => by simp [incunableref06_FromRow.j1] at h, fun _ _ _ _ _ _ _ _ _ r h => by simp [incunableref06_FromRow.l1] at h⟩
 | k + 1 => by
  obtain ⟨ih0, ih1, ih2⟩ := incunableref06_FromRow.mono_l k
  refine ⟨?_, ?_, ?_⟩
  ·intro y0 y1 y2 y3 y4 y5
   unfold incunableref06_FromRow.l0
   repeat' first
   | (with_reducible exact ih0 _ _ _ _ _ _)
   | (with_reducible exact ih1 _ _ _ _ _ _ _ _ _)
   | (with_reducible exact ih2 _ _ _ _ _ _ _ _ _)
   | (with_reducible first | exact LeO.refl _ | exact LeO.none _ | refine LeO.ite ?_ ?_ | refine LeO.bind ?_ (fun _ => ?_))
   | exact ih0 _ _ _ _ _ _
   | exact ih1 _ _ _ _ _ _ _ _ _
   | exact ih2 _ _ _ _ _ _ _ _ _
   | exact LeO.none _ | refine LeO.ite ?_ ?_ | refine LeO.bind ?_ (fun _ => ?_)
  ·intro y0 y1 y2 y3 y4 y5 y6 y7 y8
   unfold incunableref06_FromRow.j1
   repeat' first
   | (with_reducible exact ih0 _ _ _ _ _ _)
   | (with_reducible exact ih1 _ _ _ _ _ _ _ _ _)
   | (with_reducible exact ih2 _ _ _ _ _ _ _ _ _)
   | (with_reducible first | exact LeO.refl _ | exact LeO.none _ | refine LeO.ite ?_ ?_ | refine LeO.bind ?_ (fun _ => ?_))
   | exact ih0 _ _ _ _ _ _
   | exact ih1 _ _ _ _ _ _ _ _ _
   | exact ih2 _ _ _ _ _ _ _ _ _
   | exact LeO.none _ | refine LeO.ite ?_ ?_ | refine LeO.bind ?_ (fun _ => ?_)
  ·intro y0 y1 y2 y3 y4 y5 y6 y7 y8
   unfold incunableref06_FromRow.l1
   repeat' first
   | (with_reducible exact ih0 _ _ _ _ _ _)
   | (with_reducible exact ih1 _ _ _ _ _ _ _ _ _)
   | (with_reducible exact ih2 _ _ _ _ _ _ _ _ _)
   | (with_reducible first | exact LeO.refl _ | exact LeO.none _ | refine LeO.ite ?_ ?_ | refine LeO.bind ?_ (fun _ => ?_))
   | exact ih0 _ _ _ _ _ _
   | exact ih1 _ _ _ _ _ _ _ _ _
   | exact ih2 _ _ _ _ _ _ _ _ _
   | exact LeO.none _ | refine LeO.ite ?_ ?_ | refine LeO.bind ?_ (fun _ => ?_)
theorem incunableref06_FromRow.mono : ∀ a0 a1 k, LeO (incunableref06_FromRow.f k a0 a1) (incunableref06_FromRow.f (k + 1) a0 a1) := by
 intro a0 a1 k
 obtain ⟨ih0, ih1, ih2⟩ := incunableref06_FromRow.mono_l k
 unfold incunableref06_FromRow.f
 repeat' first
   | (with_reducible exact ih0 _ _ _ _ _ _)
   | (with_reducible exact ih1 _ _ _ _ _ _ _ _ _)
   | (with_reducible exact ih2 _ _ _ _ _ _ _ _ _)
   | (with_reducible first | exact LeO.refl _ | exact LeO.none _ | refine LeO.ite ?_ ?_ | refine LeO.bind ?_ (fun _ => ?_))
   | exact ih0 _ _ _ _ _ _
   | exact ih1 _ _ _ _ _ _ _ _ _
   | exact ih2 _ _ _ _ _ _ _ _ _
   | exact LeO.none _ | refine LeO.ite ?_ ?_ | refine LeO.bind ?_ (fun _ => ?_)
set_option maxHeartbeats 8000000 in
set_option maxRecDepth 100000 in
theorem incunableref06_FromRow.calls (k : Nat) (A0 : Option Addr) (c0 : Nat) (l0 : List Int) (a1 : Int) (r1 : List Int) (r2 : Bool) (w : World) (hr0 : Kd.C (Kd.int .i64) w A0 l0.length l0) (hc0 : l0.length ≤ c0) (h : incunableref06_FromRow.f k l0 a1 = some (r1, r2)) :
  Calls Tryd.prog 20 #[.slice A0 l0.length c0, .int .i64 a1] w fun e w' => ∃ v0_ : Value, e = .returned (.tuple #[v0_, .bool r2]) ∧ Kd.R (Kd.int .u8) 5 w' w.heap.size (fun _ => True) v0_ r1 ∧ Below w.heap.size w w' := by
 have HR0 := Aside0.mk hr0
 have HC0 := Aside0.mk hc0
 clear hr0 hc0
 have HB := Aside0.mk (Below.refl w.heap.size w)
 have H : (incunableref06_FromRow.l0 k l0 a1 ([] : List Int) l0 (l0.length : Int) 0) = some (r1, r2) := h
 clear h
 have H' := Aside0.mk H
 clear H
 go_enter Tryd.func20, Tryd.ntmps20
 go_wp2
 go_loopg [6, 12] k (fun kq v6 v12 w' => ∃ (x6_1 : List Int) (x12_1 : Int), v12 = .int .i64 x12_1 ∧ Aside0 (incunableref06_FromRow.l0 kq l0 a1 x6_1 l0 (l0.length : Int) x12_1 = some (r1, r2)) ∧ Aside0 (kq ≤ k) ∧ Aside0 (Kd.R (Kd.int .u8) 5 w' w.heap.size (fun _ => True) v6 x6_1) ∧ Aside0 (Below w.heap.size w w'))
 case atStart => exact ⟨(([] : List Int)), (0), rq, H', ⟨Nat.le_refl _⟩, ⟨by first | exact Kd.R_nil _ _ _ _ _ | exact Kd.N_nil _ _ _ _ _ | exact Kd.V_nil _ _ _ _ _ | exact Kd.Q_nil _ _ _ _ _ | exact Kd.S_nil _ _ _ _ _⟩, ⟨bl⟩⟩
 case round =>
  clear H'
  obtain ⟨x6_1, x12_1, rfl, HA, HK1, HO_6, HB⟩ := hrel
  cases gk with
  | zero => exact absurd HA.out (by simp [incunableref06_FromRow.l0])
  | succ k1 =>
   have H := HA.out
   clear HA
   simp only [incunableref06_FromRow.l0] at H
   by_cases c3 : x12_1 < (l0.length : Int)
   ·rw [if_pos c3] at H
    have c3b0 := decide_eq_true c3
    clear c3
    by_cases c4 : 0 ≤ x12_1
    ·rw [if_pos c4] at H
     have c4b0 := decide_eq_true c4
     clear c4
     by_cases c5 : x12_1 < (l0.length : Int)
     ·rw [if_pos c5] at H
      have c5b0 := decide_eq_true c5
      clear c5
      have HC6 := Aside0.mk H
      clear H
      have p306 : 0 ≤ (x12_1 : Int) := dt
      have q306 : x12_1 < (l0.length : Int) := dt
      obtain ⟨ad306, e306, hx306_0⟩ := Kd.at_int HR0.out x12_1 p306 q306
      cases e306
      replace hx306_0 := hcB HB.out hx306_0
      replace p306 := eq_true p306
      replace q306 := eq_true q306
      go_upto_region 5 with (fail)
      go_cut [34] (fun v34 wc => ∃ (kq : Nat) (x34_5 : Bool), v34 = .bool x34_5 ∧ Aside0 (incunableref06_FromRow.j1 kq l0 a1 x6_1 x12_1 (rd l0 x12_1) l0 (l0.length : Int) x12_1 x34_5 = some (r1, r2)) ∧ Aside0 (kq ≤ k1) ∧ Aside0 (Kd.R (Kd.int .u8) 5 wc w.heap.size (fun _ => True) u6 x6_1) ∧ Aside0 (Below w.heap.size w wc))
      case first =>
       have H := HC6.out
       clear HC6
       by_cases c7 : (rd l0 x12_1) < 0
       ·rw [if_pos c7] at H
        have c7b0 := decide_eq_true c7
        clear c7
        (first | rw [c7b0] | (simp only [i64_w, i32_w]; rw [c7b0]) | skip)
        have H' := Aside0.mk H
        clear H
        go_wp2
        go_meet
        case rel => exact ⟨_, (true), rq, H', ⟨by have := HK1.out; first | omega | exact Nat.le_refl _⟩, ⟨rU HO_6.out⟩, ⟨bl⟩⟩
       ·rw [if_neg c7] at H
        have c7b0 := decide_eq_false c7
        clear c7
        (first | rw [c7b0] | (simp only [i64_w, i32_w]; rw [c7b0]) | skip)
        by_cases c8 : (rd l0 x12_1) = 0
        ·rw [if_pos c8] at H
         have c8b0 := beq_iff_eq.mpr c8
         have c8b1 := bne_eq_false_iff_eq.mpr c8
         clear c8
         by_cases c9 : x12_1 > 0
         ·rw [if_pos c9] at H
          have c9b0 := decide_eq_true c9
          clear c9
          have H' := Aside0.mk H
          clear H
          go_wp2
          go_meet
          case rel => exact ⟨_, (true), rq, H', ⟨by have := HK1.out; first | omega | exact Nat.le_refl _⟩, ⟨rU HO_6.out⟩, ⟨bl⟩⟩
         ·rw [if_neg c9] at H
          have c9b0 := decide_eq_false c9
          clear c9
          have H' := Aside0.mk H
          clear H
          obtain ⟨Ao10, co10, eo10⟩ := Kd.R_slice HO_6.out
          subst eo10
          go_wp2
          go_meet
          case rel => exact ⟨_, (decide ((rd l0 x12_1) > (wrap64 (a1 - (x6_1.length : Int))))), rq, H', ⟨by have := HK1.out; first | omega | exact Nat.le_refl _⟩, ⟨rU HO_6.out⟩, ⟨bl⟩⟩
        ·rw [if_neg c8] at H
         have c8b0 := beq_eq_false_iff_ne.mpr c8
         have c8b1 := bne_iff_ne.mpr c8
         have H' := Aside0.mk H
         clear H
         obtain ⟨Ao11, co11, eo11⟩ := Kd.R_slice HO_6.out
         subst eo11
         go_wp2
         go_meet
         case rel => exact ⟨_, (decide ((rd l0 x12_1) > (wrap64 (a1 - (x6_1.length : Int))))), rq, H', ⟨by have := HK1.out; first | omega | exact Nat.le_refl _⟩, ⟨rU HO_6.out⟩, ⟨bl⟩⟩
      case rest =>
       clear HC6
       obtain ⟨kq, x34_5, rfl, HA, HJ5, HO_6, HB⟩ := hcut
       cases kq with
       | zero => exact absurd HA.out (by simp [incunableref06_FromRow.j1])
       | succ kj5 =>
        have H := HA.out
        clear HA
        simp only [incunableref06_FromRow.j1] at H
        by_cases c12 : x34_5 = true
        ·subst c12
         have H1 : (some (([] : List Int), false)) = some (r1, r2) := by rw [if_pos rfl] at H; exact H
         clear H
         have H := H1
         clear H1
         simp only [Option.some.injEq, Prod.mk.injEq] at H
         obtain ⟨rfl, rfl⟩ := H
         go_wp2
         go_ret2
         exact ⟨_, re, by first | exact Kd.R_nil _ _ _ _ _ | exact Kd.N_nil _ _ _ _ _ | exact Kd.V_nil _ _ _ _ _ | exact Kd.Q_nil _ _ _ _ _ | exact Kd.S_nil _ _ _ _ _, bl⟩
        ·replace c12 := Bool.eq_false_iff.mpr c12
         subst c12
         have H1 : (incunableref06_FromRow.l1 kj5 l0 a1 x6_1 x12_1 (rd l0 x12_1) 0 l0 (l0.length : Int) x12_1) = some (r1, r2) := by rw [if_neg (show ¬ (false = true) by decide)] at H; exact H
         clear H
         have H := H1
         clear H1
         have H' := Aside0.mk H
         clear H
         go_wp2
         go_loopg [6, 9] kj5 (fun kq v6 v9 w' => ∃ (x6_3 : List Int) (x9_3 : Int), v9 = .int .i64 x9_3 ∧ Aside0 (incunableref06_FromRow.l1 kq l0 a1 x6_3 x12_1 (rd l0 x12_1) x9_3 l0 (l0.length : Int) x12_1 = some (r1, r2)) ∧ Aside0 (kq ≤ kj5) ∧ Aside0 (Kd.R (Kd.int .u8) 5 w' w.heap.size (fun _ => True) v6 x6_3) ∧ Aside0 (Below w.heap.size w w'))
         case atStart => exact ⟨(x6_1), (0), rq, H', ⟨Nat.le_refl _⟩, ⟨rU HO_6.out⟩, ⟨bl⟩⟩
         case round =>
          clear H'
          obtain ⟨x6_3, x9_3, rfl, HA, HK3, HO_6, HB⟩ := hrel
          cases gk with
          | zero => exact absurd HA.out (by simp [incunableref06_FromRow.l1])
          | succ k3 =>
           have H := HA.out
           clear HA
           simp only [incunableref06_FromRow.l1] at H
           by_cases c13 : x9_3 < (rd l0 x12_1)
           ·rw [if_pos c13] at H
            have c13b0 := decide_eq_true c13
            clear c13
            by_cases c14 : x6_3.length < 140737488355328
            ·rw [if_pos c14] at H
             have LMc14 := Aside0.mk c14
             clear c14
             obtain ⟨y307, hy_⟩ : ∃ y_ : List Int, y_ = (x6_3 ++ [(Int.tmod x12_1 2) % 256]) := ⟨_, rfl⟩
             replace H : (incunableref06_FromRow.l1 k3 l0 a1 y307 x12_1 (rd l0 x12_1) (wrap64 (x9_3 + 1)) l0 (l0.length : Int) x12_1) = some (r1, r2) := rh
             have Ny307 := aE hy_
             clear hy_
             have H' := Aside0.mk H
             clear H
             go_wp2_with (first | ((with_reducible refine gate_builtin (b := .append) (xs := #[.tmp 40, .tmp 44]) rfl ?_); (try (refine gate_guard (by rfl) ?_; dsimp only)); at_builtin; refine Kd.R_append (Kd.int .u8) (w0 := w) w.heap.size rfl (.tmp 40) (.tmp 44) 22 5 (.int .u8 0) 1 rfl Tryd.underlying22 info5 rfl (by decide) (by omega) u6 x6_3 ((Int.tmod x12_1 2) % 256) [.int .u8 ((Int.tmod x12_1 2) % 256)] (fun _ => True) (fun _ => False) rfl rfl ?aP (fun _ hk => hk.elim) ?aF ?aO ?aB ?aS ?aL ?_; (case aP => exact rfl); (case aB => exact bl); (case aF => exact (fun _ _ => trivial)); (case aO => exact (rU HO_6.out)); (case aS => exact bz); (case aL => have := LMc14.out; omega); intro v308 w15 ho hb hg hat; rw [← Ny307.out] at ho; have n_ := aC hb (aE ho); clear HB HO_6; obtain ⟨HB, HO309⟩ := n_; clear ho hb hg hat))
             go_roundg k3
             case measure => have := HK1.out; have := HJ5.out; have := HK3.out; omega
             case rel => exact ⟨(y307), (wrap64 (x9_3 + 1)), rq, H', ⟨by have := HK1.out; have := HJ5.out; have := HK3.out; omega⟩, ⟨rU HO309.out⟩, ⟨bl⟩⟩
            ·rw [if_neg c14] at H
             exact absurd H (by simp)
           ·rw [if_neg c13] at H
            have c13b0 := decide_eq_false c13
            clear c13
            have H' := Aside0.mk H
            clear H
            go_wp2
            go_roundg k3
            case measure => have := HK1.out; have := HJ5.out; have := HK3.out; omega
            case rel => exact ⟨(x6_3), (wrap64 (x12_1 + 1)), rq, H', ⟨by have := HK1.out; have := HJ5.out; have := HK3.out; omega⟩, ⟨rU HO_6.out⟩, ⟨bl⟩⟩
     ·rw [if_neg c5] at H
      exact absurd H (by simp)
    ·rw [if_neg c4] at H
     exact absurd H (by simp)
   ·rw [if_neg c3] at H
    have c3b0 := decide_eq_false c3
    clear c3
    by_cases c16 : (x6_1.length : Int) = a1
    ·rw [if_pos c16] at H
     have c16b0 := beq_iff_eq.mpr c16
     have c16b1 := bne_eq_false_iff_eq.mpr c16
     clear c16
     by_cases c17 : a1 > 0
     ·rw [if_pos c17] at H
      have c17b0 := decide_eq_true c17
      clear c17
      simp only [Option.some.injEq, Prod.mk.injEq] at H
      obtain ⟨rfl, rfl⟩ := H
      obtain ⟨Ao18, co18, eo18⟩ := Kd.R_slice HO_6.out
      subst eo18
      go_wp2
      go_ret2
      exact ⟨_, re, rU HO_6.out, bl⟩
     ·rw [if_neg c17] at H
      have c17b0 := decide_eq_false c17
      clear c17
      simp only [Option.some.injEq, Prod.mk.injEq] at H
      obtain ⟨rfl, rfl⟩ := H
      obtain ⟨Ao19, co19, eo19⟩ := Kd.R_slice HO_6.out
      subst eo19
      go_wp2
      go_ret2
      exact ⟨_, re, rU HO_6.out, bl⟩
    ·rw [if_neg c16] at H
     have c16b0 := beq_eq_false_iff_ne.mpr c16
     have c16b1 := bne_iff_ne.mpr c16
     simp only [Option.some.injEq, Prod.mk.injEq] at H
     obtain ⟨rfl, rfl⟩ := H
     obtain ⟨Ao20, co20, eo20⟩ := Kd.R_slice HO_6.out
     subst eo20
     go_wp2
     go_ret2
     exact ⟨_, re, rU HO_6.out, bl⟩

/-! ### incunablelaw06_RunsFromRow: function 5 -/
def incunablelaw06_RunsFromRow.j0 : Nat → List Int → Int → List Int → Int → Bool → Option (Bool)
 | 0, _, _, _, _, _ => none
 | k + 1, x0, x1, x5, x6, x20 => if x20 = true then (if (x5.length : Int) = 0 then (if x6 = 2 then ((incunablelaw06_Awake.f k).bind fun t314 => (some t314)) else (some false)) else (some false)) else ((incunableref06_FromRow.f k x0 x1).bind fun bt315 => (if bt315.2 = true then (if x6 = 0 then ((incunableref02_SameBytes.f k x5 bt315.1).bind fun t319 => (if t319 = true then ((incunablelaw06_Awake.f k).bind fun t320 => (some t320)) else (some false))) else (some false)) else (if (x5.length : Int) = 0 then (if x6 = 3 then ((incunablelaw06_Awake.f k).bind fun t321 => (some t321)) else (some false)) else (some false))))
def incunablelaw06_RunsFromRow.f (k : Nat) (l0 : List Int) (a1 : Int) : Option (Bool) := (runs_FromRow.f k l0 a1).bind fun bt310 => (if a1 < 0 then (incunablelaw06_RunsFromRow.j0 k l0 a1 bt310.1 bt310.2 true) else (incunablelaw06_RunsFromRow.j0 k l0 a1 bt310.1 bt310.2 (decide (a1 > 200))))
theorem incunablelaw06_RunsFromRow.mono_l : ∀ k, (∀ y0 y1 y2 y3 y4, LeO (incunablelaw06_RunsFromRow.j0 k y0 y1 y2 y3 y4) (incunablelaw06_RunsFromRow.j0 (k + 1) y0 y1 y2 y3 y4))
 | 0 => fun _ _ _ _ _ r h => by simp [incunablelaw06_RunsFromRow.j0] at h
 | k + 1 => by
  have ih0 := incunablelaw06_RunsFromRow.mono_l k
  ·intro y0 y1 y2 y3 y4
   unfold incunablelaw06_RunsFromRow.j0
   repeat' first
   | (with_reducible exact ih0 _ _ _ _ _)
   | (with_reducible exact incunablelaw06_Awake.mono _)
   | (with_reducible exact incunableref02_SameBytes.mono _ _ _)
   | (with_reducible exact incunableref06_FromRow.mono _ _ _)
   | (with_reducible exact runs_FromRow.mono _ _ _)
   | (with_reducible first | exact LeO.refl _ | exact LeO.none _ | refine LeO.ite ?_ ?_ | refine LeO.bind ?_ (fun _ => ?_))
   | exact ih0 _ _ _ _ _
   | exact incunablelaw06_Awake.mono _
   | exact incunableref02_SameBytes.mono _ _ _
   | exact incunableref06_FromRow.mono _ _ _
   | exact runs_FromRow.mono _ _ _
   | exact LeO.none _ | refine LeO.ite ?_ ?_ | refine LeO.bind ?_ (fun _ => ?_)
theorem incunablelaw06_RunsFromRow.mono : ∀ a0 a1 k, LeO (incunablelaw06_RunsFromRow.f k a0 a1) (incunablelaw06_RunsFromRow.f (k + 1) a0 a1) := by
 intro a0 a1 k
 have ih0 := incunablelaw06_RunsFromRow.mono_l k
 unfold incunablelaw06_RunsFromRow.f
 repeat' first
   | (with_reducible exact ih0 _ _ _ _ _)
   | (with_reducible exact incunablelaw06_Awake.mono _)
   | (with_reducible exact incunableref02_SameBytes.mono _ _ _)
   | (with_reducible exact incunableref06_FromRow.mono _ _ _)
   | (with_reducible exact runs_FromRow.mono _ _ _)
   | (with_reducible first | exact LeO.refl _ | exact LeO.none _ | refine LeO.ite ?_ ?_ | refine LeO.bind ?_ (fun _ => ?_))
   | exact ih0 _ _ _ _ _
   | exact incunablelaw06_Awake.mono _
   | exact incunableref02_SameBytes.mono _ _ _
   | exact incunableref06_FromRow.mono _ _ _
   | exact runs_FromRow.mono _ _ _
   | exact LeO.none _ | refine LeO.ite ?_ ?_ | refine LeO.bind ?_ (fun _ => ?_)
set_option maxHeartbeats 8000000 in
set_option maxRecDepth 100000 in
theorem incunablelaw06_RunsFromRow.calls (k : Nat) (A0 : Option Addr) (c0 : Nat) (l0 : List Int) (a1 : Int) (r : Bool) (w : World) (hr0 : Kd.C (Kd.int .i64) w A0 l0.length l0) (hc0 : l0.length ≤ c0) (h : incunablelaw06_RunsFromRow.f k l0 a1 = some r) (hr_ : r = true) :
  Calls Tryd.prog 5 #[.slice A0 l0.length c0, .int .i64 a1] w fun e w' => e = .returned (.bool r) ∧ Below w.heap.size w w' := by
 have HR_ := Aside0.mk hr_
 clear hr_
 have HR0 := Aside0.mk hr0
 have HC0 := Aside0.mk hc0
 clear hr0 hc0
 have HB := Aside0.mk (Below.refl w.heap.size w)
 have H : ((runs_FromRow.f k l0 a1).bind fun bt310 => (if a1 < 0 then (incunablelaw06_RunsFromRow.j0 k l0 a1 bt310.1 bt310.2 true) else (incunablelaw06_RunsFromRow.j0 k l0 a1 bt310.1 bt310.2 (decide (a1 > 200))))) = some r := h
 clear h
 replace H := Option.bind_eq_some_iff.mp H
 obtain ⟨⟨t310, t311⟩, A30, H⟩ := H
 replace H : (if a1 < 0 then (incunablelaw06_RunsFromRow.j0 k l0 a1 t310 t311 true) else (incunablelaw06_RunsFromRow.j0 k l0 a1 t310 t311 (decide (a1 > 200)))) = some r := H
 have A3 := Aside0.mk A30
 clear A30
 have HC4 := Aside0.mk H
 clear H
 go_enter Tryd.func5, Tryd.ntmps5
 go_upto_region 2 with (first | ((with_reducible refine gf 19 rfl ?_); refine gL (some 12) rfl rfl Tryd.func19 rfl #[.slice A0 l0.length c0, .int .i64 a1] rfl ?_; (with_reducible refine (runs_FromRow.calls k _ _ l0 a1 t310 t311 _ ?side1 ?side2 A3.out).mono ?_); (case side1 => exact cU HR0.out); (case side2 => exact HC0.out); rintro e w5 ⟨v312, rfl, ho0, hb⟩; refine ⟨_, rfl, ?_⟩; have n_ := aC (Kd.R_lower ho0 bz) (aE (bs hb)); clear HB; obtain ⟨HO313, HB⟩ := n_; (try clear hb); (try clear ho0)))
 (try simp only [Act.put, List.setIfInBounds_toArray, List.set_cons_zero, List.set_cons_succ])
 go_cut [20] (fun v20 wc => ∃ (kq : Nat) (x20_3 : Bool), v20 = .bool x20_3 ∧ Aside0 (incunablelaw06_RunsFromRow.j0 kq l0 a1 t310 t311 x20_3 = some r) ∧ Aside0 (kq ≤ k) ∧ Aside0 (Kd.R (Kd.int .u8) 5 wc w.heap.size (fun _ => True) v312 t310) ∧ Aside0 (Below w.heap.size w wc))
 case first =>
  have H := HC4.out
  clear HC4
  by_cases c6 : a1 < 0
  ·rw [if_pos c6] at H
   have c6b0 := decide_eq_true c6
   clear c6
   (first | rw [c6b0] | (simp only [i64_w, i32_w]; rw [c6b0]) | skip)
   have H' := Aside0.mk H
   clear H
   go_wp2
   go_meet
   case rel => exact ⟨_, (true), rq, H', ⟨by first | omega | exact Nat.le_refl _⟩, ⟨rU HO313.out⟩, ⟨bl⟩⟩
  ·rw [if_neg c6] at H
   have c6b0 := decide_eq_false c6
   clear c6
   (first | rw [c6b0] | (simp only [i64_w, i32_w]; rw [c6b0]) | skip)
   have H' := Aside0.mk H
   clear H
   go_wp2
   go_meet
   case rel => exact ⟨_, (decide (a1 > 200)), rq, H', ⟨by first | omega | exact Nat.le_refl _⟩, ⟨rU HO313.out⟩, ⟨bl⟩⟩
 case rest =>
  clear HC4
  obtain ⟨kq, x20_3, rfl, HA, HJ3, HO_5, HB⟩ := hcut
  cases kq with
  | zero => exact absurd HA.out (by simp [incunablelaw06_RunsFromRow.j0])
  | succ kj3 =>
   have H := HA.out
   clear HA
   simp only [incunablelaw06_RunsFromRow.j0] at H
   by_cases c7 : x20_3 = true
   ·subst c7
    have H1 : (if (t310.length : Int) = 0 then (if t311 = 2 then ((incunablelaw06_Awake.f kj3).bind fun t314 => (some t314)) else (some false)) else (some false)) = some r := by rw [if_pos rfl] at H; exact H
    clear H
    have H := H1
    clear H1
    by_cases c8 : (t310.length : Int) = 0
    ·rw [if_pos c8] at H
     have c8b0 := beq_iff_eq.mpr c8
     have c8b1 := bne_eq_false_iff_eq.mpr c8
     clear c8
     by_cases c9 : t311 = 2
     ·rw [if_pos c9] at H
      have c9b0 := beq_iff_eq.mpr c9
      have c9b1 := bne_eq_false_iff_eq.mpr c9
      clear c9
      replace H := Option.bind_eq_some_iff.mp H
      obtain ⟨t314, A100, H⟩ := H
      replace H : (some t314) = some r := H
      have A10 := Aside0.mk A100
      clear A100
      obtain rfl := Option.some.inj H
      obtain ⟨Ao11, co11, eo11⟩ := Kd.R_slice HO_5.out
      subst eo11
      go_wp2_with (first | (go_at_call 13; (with_reducible refine (incunablelaw06_Awake.calls kj3  t314 _ A10.out).mono ?_); rintro e w12 ⟨rfl, hb⟩; have n_ := aC (Kd.R_below (rU HO_5.out) hb) (aE (bs hb)); clear HO_5 HB; obtain ⟨HO_5, HB⟩ := n_; (try clear hb)))
      go_ret
      exact ⟨re, bl⟩
     ·rw [if_neg c9] at H
      have c9b0 := beq_eq_false_iff_ne.mpr c9
      have c9b1 := bne_iff_ne.mpr c9
      exact absurd ((Option.some.inj H).trans HR_.out) (by decide)
    ·rw [if_neg c8] at H
     have c8b0 := beq_eq_false_iff_ne.mpr c8
     have c8b1 := bne_iff_ne.mpr c8
     have c8b2 : ¬ (t310 = []) := fun h_ => c8 (by rw [h_]; rfl)
     exact absurd ((Option.some.inj H).trans HR_.out) (by decide)
   ·replace c7 := Bool.eq_false_iff.mpr c7
    subst c7
    have H1 : ((incunableref06_FromRow.f kj3 l0 a1).bind fun bt315 => (if bt315.2 = true then (if t311 = 0 then ((incunableref02_SameBytes.f kj3 t310 bt315.1).bind fun t319 => (if t319 = true then ((incunablelaw06_Awake.f kj3).bind fun t320 => (some t320)) else (some false))) else (some false)) else (if (t310.length : Int) = 0 then (if t311 = 3 then ((incunablelaw06_Awake.f kj3).bind fun t321 => (some t321)) else (some false)) else (some false)))) = some r := by rw [if_neg (show ¬ (false = true) by decide)] at H; exact H
    clear H
    have H := H1
    clear H1
    replace H := Option.bind_eq_some_iff.mp H
    obtain ⟨⟨t315, t316⟩, A130, H⟩ := H
    replace H : (if t316 = true then (if t311 = 0 then ((incunableref02_SameBytes.f kj3 t310 t315).bind fun t319 => (if t319 = true then ((incunablelaw06_Awake.f kj3).bind fun t320 => (some t320)) else (some false))) else (some false)) else (if (t310.length : Int) = 0 then (if t311 = 3 then ((incunablelaw06_Awake.f kj3).bind fun t321 => (some t321)) else (some false)) else (some false))) = some r := H
    have A13 := Aside0.mk A130
    clear A130
    by_cases c14 : t316 = true
    ·subst c14
     have H1 : (if t311 = 0 then ((incunableref02_SameBytes.f kj3 t310 t315).bind fun t319 => (if t319 = true then ((incunablelaw06_Awake.f kj3).bind fun t320 => (some t320)) else (some false))) else (some false)) = some r := by rw [if_pos rfl] at H; exact H
     clear H
     have H := H1
     clear H1
     by_cases c15 : t311 = 0
     ·rw [if_pos c15] at H
      have c15b0 := beq_iff_eq.mpr c15
      have c15b1 := bne_eq_false_iff_eq.mpr c15
      clear c15
      replace H := Option.bind_eq_some_iff.mp H
      obtain ⟨t319, A160, H⟩ := H
      replace H : (if t319 = true then ((incunablelaw06_Awake.f kj3).bind fun t320 => (some t320)) else (some false)) = some r := H
      have A16 := Aside0.mk A160
      clear A160
      by_cases c17 : t319 = true
      ·subst c17
       have H1 : ((incunablelaw06_Awake.f kj3).bind fun t320 => (some t320)) = some r := by rw [if_pos rfl] at H; exact H
       clear H
       have H := H1
       clear H1
       replace H := Option.bind_eq_some_iff.mp H
       obtain ⟨t320, A180, H⟩ := H
       replace H : (some t320) = some r := H
       have A18 := Aside0.mk A180
       clear A180
       obtain rfl := Option.some.inj H
       go_wp2_with (first | ((with_reducible refine gf 20 rfl ?_); refine gL (some 34) rfl rfl Tryd.func20 rfl #[.slice A0 l0.length c0, .int .i64 a1] rfl ?_; (with_reducible refine (incunableref06_FromRow.calls kj3 _ _ l0 a1 t315 true _ ?side1 ?side2 A13.out).mono ?_); (case side1 => exact cU (Kd.C_below HR0.out HB.out)); (case side2 => exact HC0.out); rintro e w19 ⟨v317, rfl, ho0, hb⟩; refine ⟨_, rfl, ?_⟩; have n_ := aC (Kd.R_elder' (rU HO_5.out) (Kd.R_base ho0) hb) (aC (Kd.R_lower (Kd.R_new' ho0 (Kd.R_lt (rU HO_5.out))) bz) (aE (bs hb))); clear HO_5 HB; obtain ⟨HO_5, HO318, HB⟩ := n_; (try clear hb); (try clear ho0); obtain ⟨Ao20, co20, eo20⟩ := Kd.R_slice HO_5.out; subst eo20; obtain ⟨Ao21, co21, eo21⟩ := Kd.R_slice HO318.out; subst eo21) | (go_at_call 14; (with_reducible refine (incunableref02_SameBytes.calls kj3 _ _ t310 _ _ t315 true _ ?side1 ?side2 ?side3 ?side4 A16.out).mono ?_); (case side1 => exact cU (Kd.R_reads' HO_5.out).2.2); (case side2 => exact (Kd.R_reads' HO_5.out).2.1); (case side3 => exact cU (Kd.R_reads' HO318.out).2.2); (case side4 => exact (Kd.R_reads' HO318.out).2.1); rintro e w' ⟨rfl, ⟨nd, rfl⟩⟩) | (go_at_call 13; (with_reducible refine (incunablelaw06_Awake.calls kj3  t320 _ A18.out).mono ?_); rintro e w22 ⟨rfl, hb⟩; have n_ := aC (Kd.R_below (rU HO_5.out) hb) (aC (Kd.R_below (rU HO318.out) hb) (aE (bs hb))); clear HO_5 HO318 HB; obtain ⟨HO_5, HO318, HB⟩ := n_; (try clear hb)))
       go_ret
       exact ⟨re, bl⟩
      ·replace c17 := Bool.eq_false_iff.mpr c17
       subst c17
       have H1 : (some false) = some r := by rw [if_neg (show ¬ (false = true) by decide)] at H; exact H
       clear H
       have H := H1
       clear H1
       exact absurd ((Option.some.inj H).trans HR_.out) (by decide)
     ·rw [if_neg c15] at H
      have c15b0 := beq_eq_false_iff_ne.mpr c15
      have c15b1 := bne_iff_ne.mpr c15
      exact absurd ((Option.some.inj H).trans HR_.out) (by decide)
    ·replace c14 := Bool.eq_false_iff.mpr c14
     subst c14
     have H1 : (if (t310.length : Int) = 0 then (if t311 = 3 then ((incunablelaw06_Awake.f kj3).bind fun t321 => (some t321)) else (some false)) else (some false)) = some r := by rw [if_neg (show ¬ (false = true) by decide)] at H; exact H
     clear H
     have H := H1
     clear H1
     by_cases c23 : (t310.length : Int) = 0
     ·rw [if_pos c23] at H
      have c23b0 := beq_iff_eq.mpr c23
      have c23b1 := bne_eq_false_iff_eq.mpr c23
      clear c23
      by_cases c24 : t311 = 3
      ·rw [if_pos c24] at H
       have c24b0 := beq_iff_eq.mpr c24
       have c24b1 := bne_eq_false_iff_eq.mpr c24
       clear c24
       replace H := Option.bind_eq_some_iff.mp H
       obtain ⟨t321, A250, H⟩ := H
       replace H : (some t321) = some r := H
       have A25 := Aside0.mk A250
       clear A250
       obtain rfl := Option.some.inj H
       go_wp2_with (first | ((with_reducible refine gf 20 rfl ?_); refine gL (some 34) rfl rfl Tryd.func20 rfl #[.slice A0 l0.length c0, .int .i64 a1] rfl ?_; (with_reducible refine (incunableref06_FromRow.calls kj3 _ _ l0 a1 t315 false _ ?side1 ?side2 A13.out).mono ?_); (case side1 => exact cU (Kd.C_below HR0.out HB.out)); (case side2 => exact HC0.out); rintro e w26 ⟨v317, rfl, ho0, hb⟩; refine ⟨_, rfl, ?_⟩; have n_ := aC (Kd.R_elder' (rU HO_5.out) (Kd.R_base ho0) hb) (aC (Kd.R_lower (Kd.R_new' ho0 (Kd.R_lt (rU HO_5.out))) bz) (aE (bs hb))); clear HO_5 HB; obtain ⟨HO_5, HO318, HB⟩ := n_; (try clear hb); (try clear ho0); obtain ⟨Ao27, co27, eo27⟩ := Kd.R_slice HO_5.out; subst eo27) | (go_at_call 13; (with_reducible refine (incunablelaw06_Awake.calls kj3  t321 _ A25.out).mono ?_); rintro e w28 ⟨rfl, hb⟩; have n_ := aC (Kd.R_below (rU HO_5.out) hb) (aC (Kd.R_below (rU HO318.out) hb) (aE (bs hb))); clear HO_5 HO318 HB; obtain ⟨HO_5, HO318, HB⟩ := n_; (try clear hb)))
       go_ret
       exact ⟨re, bl⟩
      ·rw [if_neg c24] at H
       have c24b0 := beq_eq_false_iff_ne.mpr c24
       have c24b1 := bne_iff_ne.mpr c24
       exact absurd ((Option.some.inj H).trans HR_.out) (by decide)
     ·rw [if_neg c23] at H
      have c23b0 := beq_eq_false_iff_ne.mpr c23
      have c23b1 := bne_iff_ne.mpr c23
      have c23b2 : ¬ (t310 = []) := fun h_ => c23 (by rw [h_]; rfl)
      exact absurd ((Option.some.inj H).trans HR_.out) (by decide)

/-- THE ONE PURE STATEMENT of incunablelaw06_RunsFromRow: yours. -/
def incunablelaw06_RunsFromRow.Pure : Prop := ∀ (l0 : List Int) (a1 : Int), (l0.length ≤ 9223372036854775807 ∧ l0.length * 8 ≤ 140737488351232 ∧ ∀ y0_ ∈ l0, (Lit.int .i64 y0_).wf = true) → ((Lit.int .i64 a1).wf = true) → ∃ k, incunablelaw06_RunsFromRow.f k l0 a1 = some true
theorem incunablelaw06_RunsFromRow.walk (P : incunablelaw06_RunsFromRow.Pure) (A0 : Option Addr) (c0 : Nat) (l0 : List Int) (a1 : Int) (w : World) (hr0 : Kd.C (Kd.int .i64) w A0 l0.length l0) (hc0 : l0.length ≤ c0) (g0 : l0.length ≤ 9223372036854775807 ∧ l0.length * 8 ≤ 140737488351232 ∧ ∀ y0_ ∈ l0, (Lit.int .i64 y0_).wf = true) (g1 : (Lit.int .i64 a1).wf = true) :
  Calls Tryd.prog 5 #[.slice A0 l0.length c0, .int .i64 a1] w fun e w' => e = .returned (.bool true) ∧ Below w.heap.size w w' := by
 obtain ⟨k, h⟩ := P l0 a1 g0 g1
 refine (incunablelaw06_RunsFromRow.calls k A0 c0 l0 a1 true w hr0 hc0 h rfl).mono ?_
 rintro e w' ⟨rfl, hd⟩
 exact ⟨rfl, hd⟩

end Go.Proofs.YtknclbodinfbeaaDoor.PRunsFromRow
