-- Written by a program of this session (wip/tools/myprint.py) over the kit's print. Not trusted: Lean checks it.
import Derived.Test.YtknclbodinfbeaaDoorPRunsRowx0
import Derived.Test.YtknclbodinfbeaaDoorPRunsRowx4
import Derived.Test.YtknclbodinfbeaaDoorPRunsRowx6
import Derived.Test.YtknclbodinfbeaaDoorPRunsRowx7
import Derived.Test.YtknclbodinfbeaaDoorPRunsRowx8
namespace Go.Proofs.YtknclbodinfbeaaDoor.PRunsRow
open Go.RowKit Go.Proofs.YtknclbodinfbeaaDoorW.PrintWords Go.Proofs.YtknclbodinfbeaaDoorW.PrintLast Go.Proofs.YtknclbodinfbeaaDoorW.PrintMore
attribute [local go_sem] max2_int min2_int max_two min_two max_three min_three max_four min_four   -- for this text's walks alone
set_option linter.unusedVariables false
set_option linter.unusedSimpArgs false

/-! ### incunableref06_Row: function 23 -/
mutual
def incunableref06_Row.l0 : Nat → List Int → List Int → Int → Int → Option (List Int)
 | 0, _, _, _, _ => none
 | k + 1, x0, x3, x4, x5 => if x5 < (x0.length : Int) then (incunableref06_Row.l1 k x0 x3 x4 x5 0) else (some x3)
def incunableref06_Row.l1 : Nat → List Int → List Int → Int → Int → Int → Option (List Int)
 | 0, _, _, _, _, _ => none
 | k + 1, x0, x3, x4, x5, x6 => if (wrap64 (x5 + x6)) < (x0.length : Int) then (if 0 ≤ (wrap64 (x5 + x6)) then (if (rd x0 (wrap64 (x5 + x6))) = x4 then (incunableref06_Row.l1 k x0 x3 x4 x5 (wrap64 (x6 + 1))) else (if x3.length < 17592186044416 then (incunableref06_Row.l0 k x0 (x3 ++ [x6]) ((1 - x4) % 256) (wrap64 (x5 + x6))) else (none))) else (none)) else (if x3.length < 17592186044416 then (incunableref06_Row.l0 k x0 (x3 ++ [x6]) ((1 - x4) % 256) (wrap64 (x5 + x6))) else (none))
end
def incunableref06_Row.f (k : Nat) (l0 : List Int) : Option (List Int) := incunableref06_Row.l0 k l0 ([] : List Int) 0 0
theorem incunableref06_Row.mono_l : ∀ k, (∀ y0 y1 y2 y3, LeO (incunableref06_Row.l0 k y0 y1 y2 y3) (incunableref06_Row.l0 (k + 1) y0 y1 y2 y3)) ∧ (∀ y0 y1 y2 y3 y4, LeO (incunableref06_Row.l1 k y0 y1 y2 y3 y4) (incunableref06_Row.l1 (k + 1) y0 y1 y2 y3 y4))
 | 0 => ⟨fun _ _ _ _ r h => by simp [incunableref06_Row.l0] at h, fun _ _ _ _ _ r h => by simp [incunableref06_Row.l1] at h⟩
 | k + 1 => by
  obtain ⟨ih0, ih1⟩ := incunableref06_Row.mono_l k
  refine ⟨?_, ?_⟩
  ·intro y0 y1 y2 y3
   unfold incunableref06_Row.l0
   repeat' first
   | (with_reducible exact ih0 _ _ _ _)
   | (with_reducible exact ih1 _ _ _ _ _)
   | (with_reducible first | exact LeO.refl _ | exact LeO.none _ | refine LeO.ite ?_ ?_ | refine LeO.bind ?_ (fun _ => ?_))
   | exact ih0 _ _ _ _
   | exact ih1 _ _ _ _ _
   | exact LeO.none _ | refine LeO.ite ?_ ?_ | refine LeO.bind ?_ (fun _ => ?_)
  ·intro y0 y1 y2 y3 y4
   unfold incunableref06_Row.l1
   repeat' first
   | (with_reducible exact ih0 _ _ _ _)
   | (with_reducible exact ih1 _ _ _ _ _)
   | (with_reducible first | exact LeO.refl _ | exact LeO.none _ | refine LeO.ite ?_ ?_ | refine LeO.bind ?_ (fun _ => ?_))
   | exact ih0 _ _ _ _
   | exact ih1 _ _ _ _ _
   | exact LeO.none _ | refine LeO.ite ?_ ?_ | refine LeO.bind ?_ (fun _ => ?_)
theorem incunableref06_Row.mono : ∀ a0 k, LeO (incunableref06_Row.f k a0) (incunableref06_Row.f (k + 1) a0) := by
 intro a0 k
 obtain ⟨ih0, ih1⟩ := incunableref06_Row.mono_l k
 unfold incunableref06_Row.f
 repeat' first
   | (with_reducible exact ih0 _ _ _ _)
   | (with_reducible exact ih1 _ _ _ _ _)
   | (with_reducible first | exact LeO.refl _ | exact LeO.none _ | refine LeO.ite ?_ ?_ | refine LeO.bind ?_ (fun _ => ?_))
   | exact ih0 _ _ _ _
   | exact ih1 _ _ _ _ _
   | exact LeO.none _ | refine LeO.ite ?_ ?_ | refine LeO.bind ?_ (fun _ => ?_)
set_option maxHeartbeats 8000000 in
set_option maxRecDepth 100000 in
theorem incunableref06_Row.calls (k : Nat) (A0 : Option Addr) (c0 : Nat) (l0 : List Int) (r : List Int) (w : World) (hr0 : Kd.C (Kd.int .u8) w A0 l0.length l0) (hc0 : l0.length ≤ c0) (h : incunableref06_Row.f k l0 = some r) :
  Calls Tryd.prog 23 #[.slice A0 l0.length c0] w fun e w' => ∃ v0_ : Value, e = .returned (v0_) ∧ Kd.R (Kd.int .i64) 3 w' w.heap.size (fun _ => True) v0_ r ∧ Below w.heap.size w w' := by
 have HR0 := Aside0.mk hr0
 have HC0 := Aside0.mk hc0
 clear hr0 hc0
 have HB := Aside0.mk (Below.refl w.heap.size w)
 have H : (incunableref06_Row.l0 k l0 ([] : List Int) 0 0) = some r := h
 clear h
 have H' := Aside0.mk H
 clear H
 go_enter Tryd.func23, Tryd.ntmps23
 go_wp2
 go_loopg [3, 4, 5] k (fun kq v3 v4 v5 w' => ∃ (x3_1 : List Int) (x4_1 : Int) (x5_1 : Int), v4 = .int .u8 x4_1 ∧ v5 = .int .i64 x5_1 ∧ Aside0 (incunableref06_Row.l0 kq l0 x3_1 x4_1 x5_1 = some r) ∧ Aside0 (kq ≤ k) ∧ Aside0 (Kd.R (Kd.int .i64) 3 w' w.heap.size (fun _ => True) v3 x3_1) ∧ Aside0 (Below w.heap.size w w'))
 case atStart => exact ⟨(([] : List Int)), (0), (0), rq, rq, H', ⟨Nat.le_refl _⟩, ⟨by first | exact Kd.R_nil _ _ _ _ _ | exact Kd.N_nil _ _ _ _ _ | exact Kd.V_nil _ _ _ _ _ | exact Kd.Q_nil _ _ _ _ _ | exact Kd.S_nil _ _ _ _ _⟩, ⟨bl⟩⟩
 case round =>
  clear H'
  obtain ⟨x3_1, x4_1, x5_1, rfl, rfl, HA, HK1, HO_3, HB⟩ := hrel
  cases gk with
  | zero => exact absurd HA.out (by simp [incunableref06_Row.l0])
  | succ k1 =>
   have H := HA.out
   clear HA
   simp only [incunableref06_Row.l0] at H
   by_cases c2 : x5_1 < (l0.length : Int)
   ·rw [if_pos c2] at H
    have c2b0 := decide_eq_true c2
    clear c2
    have H' := Aside0.mk H
    clear H
    go_wp2
    go_loopg [6] k1 (fun kq v6 w' => ∃ (x6_2 : Int), v6 = .int .i64 x6_2 ∧ Aside0 (incunableref06_Row.l1 kq l0 x3_1 x4_1 x5_1 x6_2 = some r) ∧ Aside0 (kq ≤ k1) ∧ Aside0 (Kd.R (Kd.int .i64) 3 w' w.heap.size (fun _ => True) u3 x3_1) ∧ Aside0 (Below w.heap.size w w'))
    case atStart => exact ⟨(0), rq, H', ⟨Nat.le_refl _⟩, ⟨rU HO_3.out⟩, ⟨bl⟩⟩
    case round =>
     clear H'
     obtain ⟨x6_2, rfl, HA, HK2, HO_3, HB⟩ := hrel
     cases gk with
     | zero => exact absurd HA.out (by simp [incunableref06_Row.l1])
     | succ k2 =>
      have H := HA.out
      clear HA
      simp only [incunableref06_Row.l1] at H
      by_cases c3 : (wrap64 (x5_1 + x6_2)) < (l0.length : Int)
      ·rw [if_pos c3] at H
       have c3b0 := decide_eq_true c3
       clear c3
       obtain ⟨ji4, hji4⟩ : ∃ j_ : Int, (wrap64 (x5_1 + x6_2)) = j_ := ⟨_, rfl⟩
       replace H : (if 0 ≤ (ji4) then (if (rd l0 (ji4)) = x4_1 then (incunableref06_Row.l1 k2 l0 x3_1 x4_1 x5_1 (wrap64 (x6_2 + 1))) else (if x3_1.length < 17592186044416 then (incunableref06_Row.l0 k2 l0 (x3_1 ++ [x6_2]) ((1 - x4_1) % 256) ji4) else (none))) else (none)) = some r := by first | (rw [hji4] at H; exact H) | (simp only [hji4] at H ⊢; exact H)
       (try rw [hji4] at c3b0)
       have hji4w : (IntKind.i64.wrap (x5_1 + x6_2)) = ji4 := (i64_w _).trans hji4
       by_cases c5 : 0 ≤ (ji4)
       ·rw [if_pos c5] at H
        have c5b0 := decide_eq_true c5
        clear c5
        by_cases c6 : (rd l0 (ji4)) = x4_1
        ·rw [if_pos c6] at H
         have c6b0 := beq_iff_eq.mpr c6
         have c6b1 := bne_eq_false_iff_eq.mpr c6
         clear c6
         have H' := Aside0.mk H
         clear H
         have p321 : 0 ≤ ((ji4) : Int) := dt
         have q321 : (ji4) < (l0.length : Int) := dt
         obtain ⟨ad321, e321, hx321_0⟩ := Kd.at_int HR0.out (ji4) p321 q321
         cases e321
         replace hx321_0 := hcB HB.out hx321_0
         replace p321 := eq_true p321
         replace q321 := eq_true q321
         go_wp2
         go_roundg k2
         case measure => have := HK1.out; have := HK2.out; omega
         case rel => exact ⟨(wrap64 (x6_2 + 1)), rq, H', ⟨by have := HK1.out; have := HK2.out; omega⟩, ⟨rU HO_3.out⟩, ⟨bl⟩⟩
        ·rw [if_neg c6] at H
         have c6b0 := beq_eq_false_iff_ne.mpr c6
         have c6b1 := bne_iff_ne.mpr c6
         by_cases c7 : x3_1.length < 17592186044416
         ·rw [if_pos c7] at H
          have LMc7 := Aside0.mk c7
          clear c7
          obtain ⟨y322, hy_⟩ : ∃ y_ : List Int, y_ = (x3_1 ++ [x6_2]) := ⟨_, rfl⟩
          replace H : (incunableref06_Row.l0 k2 l0 y322 ((1 - x4_1) % 256) ji4) = some r := rh
          have Ny322 := aE hy_
          clear hy_
          have H' := Aside0.mk H
          clear H
          have p321 : 0 ≤ ((ji4) : Int) := dt
          have q321 : (ji4) < (l0.length : Int) := dt
          obtain ⟨ad321, e321, hx321_0⟩ := Kd.at_int HR0.out (ji4) p321 q321
          cases e321
          replace hx321_0 := hcB HB.out hx321_0
          replace p321 := eq_true p321
          replace q321 := eq_true q321
          go_wp2_with (first | ((with_reducible refine gate_builtin (b := .append) (xs := #[.tmp 29, .tmp 31]) rfl ?_); at_builtin; refine Kd.R_append (Kd.int .i64) (w0 := w) w.heap.size rfl (.tmp 29) (.tmp 31) 38 3 (.int .i64 0) 8 rfl Tryd.underlying38 info3 rfl (by decide) (by omega) u3 x3_1 x6_2 [.int .i64 x6_2] (fun _ => True) (fun _ => False) rfl rfl ?aP (fun _ hk => hk.elim) ?aF ?aO ?aB ?aS ?aL ?_; (case aP => exact rfl); (case aB => exact bl); (case aF => exact (fun _ _ => trivial)); (case aO => exact (rU HO_3.out)); (case aS => exact bz); (case aL => have := LMc7.out; omega); intro v323 w8 ho hb hg hat; rw [← Ny322.out] at ho; have n_ := aC hb (aE ho); clear HB HO_3; obtain ⟨HB, HO324⟩ := n_; clear ho hb hg hat))
          go_roundg k2
          case measure => have := HK1.out; have := HK2.out; omega
          case rel => exact ⟨(y322), ((1 - x4_1) % 256), (ji4), rq, (by first | rfl | (simp; done) | (simp only [← hji4] <;> (first | rfl | simp)) | (simp [*]; done)), H', ⟨by have := HK1.out; have := HK2.out; omega⟩, ⟨rU HO324.out⟩, ⟨bl⟩⟩
         ·rw [if_neg c7] at H
          exact absurd H (by simp)
       ·rw [if_neg c5] at H
        exact absurd H (by simp)
      ·rw [if_neg c3] at H
       have c3b0 := decide_eq_false c3
       clear c3
       by_cases c9 : x3_1.length < 17592186044416
       ·rw [if_pos c9] at H
        have LMc9 := Aside0.mk c9
        clear c9
        obtain ⟨y325, hy_⟩ : ∃ y_ : List Int, y_ = (x3_1 ++ [x6_2]) := ⟨_, rfl⟩
        replace H : (incunableref06_Row.l0 k2 l0 y325 ((1 - x4_1) % 256) (wrap64 (x5_1 + x6_2))) = some r := rh
        have Ny325 := aE hy_
        clear hy_
        have H' := Aside0.mk H
        clear H
        go_wp2_with (first | ((with_reducible refine gate_builtin (b := .append) (xs := #[.tmp 29, .tmp 31]) rfl ?_); at_builtin; refine Kd.R_append (Kd.int .i64) (w0 := w) w.heap.size rfl (.tmp 29) (.tmp 31) 38 3 (.int .i64 0) 8 rfl Tryd.underlying38 info3 rfl (by decide) (by omega) u3 x3_1 x6_2 [.int .i64 x6_2] (fun _ => True) (fun _ => False) rfl rfl ?aP (fun _ hk => hk.elim) ?aF ?aO ?aB ?aS ?aL ?_; (case aP => exact rfl); (case aB => exact bl); (case aF => exact (fun _ _ => trivial)); (case aO => exact (rU HO_3.out)); (case aS => exact bz); (case aL => have := LMc9.out; omega); intro v326 w10 ho hb hg hat; rw [← Ny325.out] at ho; have n_ := aC hb (aE ho); clear HB HO_3; obtain ⟨HB, HO327⟩ := n_; clear ho hb hg hat))
        go_roundg k2
        case measure => have := HK1.out; have := HK2.out; omega
        case rel => exact ⟨(y325), ((1 - x4_1) % 256), (wrap64 (x5_1 + x6_2)), rq, rq, H', ⟨by have := HK1.out; have := HK2.out; omega⟩, ⟨rU HO327.out⟩, ⟨bl⟩⟩
       ·rw [if_neg c9] at H
        exact absurd H (by simp)
   ·rw [if_neg c2] at H
    have c2b0 := decide_eq_false c2
    clear c2
    obtain rfl := Option.some.inj H
    go_wp2
    go_ret
    exact ⟨_, re, rU HO_3.out, bl⟩

/-! ### incunablelaw06_RunsRow: function 6 -/
def incunablelaw06_RunsRow.j0 : Nat → List Int → List Int → Bool → Option (Bool)
 | 0, _, _, _ => none
 | k + 1, x0, x3, x32 => if x32 = true then (some false) else ((runs_FromRow.f k x3 (x0.length : Int)).bind fun bt338 => (if bt338.2 = 0 then ((incunableref02_SameBytes.f k bt338.1 x0).bind fun t342 => (if t342 = true then ((incunablelaw06_Awake.f k).bind fun t343 => (some t343)) else (some false))) else (some false)))
def incunablelaw06_RunsRow.f (k : Nat) (l0 : List Int) : Option (Bool) := (runs_Row.f k l0).bind fun bt328 => ((incunablelaw06_isRow.f k l0).bind fun t332 => (if t332 = true then (if bt328.2 = 0 then ((incunableref06_Row.f k l0).bind fun t334 => ((incunableref02_SameInts.f k bt328.1 t334).bind fun t337 => (incunablelaw06_RunsRow.j0 k l0 bt328.1 (!t337)))) else (incunablelaw06_RunsRow.j0 k l0 bt328.1 true)) else (if (bt328.1.length : Int) = 0 then (if bt328.2 = 2 then ((incunablelaw06_Awake.f k).bind fun t333 => (some t333)) else (some false)) else (some false))))
theorem incunablelaw06_RunsRow.mono_l : ∀ k, (∀ y0 y1 y2, LeO (incunablelaw06_RunsRow.j0 k y0 y1 y2) (incunablelaw06_RunsRow.j0 (k + 1) y0 y1 y2))
 | 0 => fun _ _ _ r h => by simp [incunablelaw06_RunsRow.j0] at h
 | k + 1 => by
  have ih0 := incunablelaw06_RunsRow.mono_l k
  ·intro y0 y1 y2
   unfold incunablelaw06_RunsRow.j0
   repeat' first
   | (with_reducible exact ih0 _ _ _)
   | (with_reducible exact incunablelaw06_Awake.mono _)
   | (with_reducible exact incunablelaw06_isRow.mono _ _)
   | (with_reducible exact incunableref02_SameBytes.mono _ _ _)
   | (with_reducible exact incunableref02_SameInts.mono _ _ _)
   | (with_reducible exact incunableref06_Row.mono _ _)
   | (with_reducible exact runs_FromRow.mono _ _ _)
   | (with_reducible exact runs_Row.mono _ _)
   | (with_reducible first | exact LeO.refl _ | exact LeO.none _ | refine LeO.ite ?_ ?_ | refine LeO.bind ?_ (fun _ => ?_))
   | exact ih0 _ _ _
   | exact incunablelaw06_Awake.mono _
   | exact incunablelaw06_isRow.mono _ _
   | exact incunableref02_SameBytes.mono _ _ _
   | exact incunableref02_SameInts.mono _ _ _
   | exact incunableref06_Row.mono _ _
   | exact runs_FromRow.mono _ _ _
   | exact runs_Row.mono _ _
   | exact LeO.none _ | refine LeO.ite ?_ ?_ | refine LeO.bind ?_ (fun _ => ?_)
theorem incunablelaw06_RunsRow.mono : ∀ a0 k, LeO (incunablelaw06_RunsRow.f k a0) (incunablelaw06_RunsRow.f (k + 1) a0) := by
 intro a0 k
 have ih0 := incunablelaw06_RunsRow.mono_l k
 unfold incunablelaw06_RunsRow.f
 repeat' first
   | (with_reducible exact ih0 _ _ _)
   | (with_reducible exact incunablelaw06_Awake.mono _)
   | (with_reducible exact incunablelaw06_isRow.mono _ _)
   | (with_reducible exact incunableref02_SameBytes.mono _ _ _)
   | (with_reducible exact incunableref02_SameInts.mono _ _ _)
   | (with_reducible exact incunableref06_Row.mono _ _)
   | (with_reducible exact runs_FromRow.mono _ _ _)
   | (with_reducible exact runs_Row.mono _ _)
   | (with_reducible first | exact LeO.refl _ | exact LeO.none _ | refine LeO.ite ?_ ?_ | refine LeO.bind ?_ (fun _ => ?_))
   | exact ih0 _ _ _
   | exact incunablelaw06_Awake.mono _
   | exact incunablelaw06_isRow.mono _ _
   | exact incunableref02_SameBytes.mono _ _ _
   | exact incunableref02_SameInts.mono _ _ _
   | exact incunableref06_Row.mono _ _
   | exact runs_FromRow.mono _ _ _
   | exact runs_Row.mono _ _
   | exact LeO.none _ | refine LeO.ite ?_ ?_ | refine LeO.bind ?_ (fun _ => ?_)
set_option maxHeartbeats 8000000 in
set_option maxRecDepth 100000 in
theorem incunablelaw06_RunsRow.calls (k : Nat) (A0 : Option Addr) (c0 : Nat) (l0 : List Int) (r : Bool) (w : World) (hr0 : Kd.C (Kd.int .u8) w A0 l0.length l0) (hc0 : l0.length ≤ c0) (h : incunablelaw06_RunsRow.f k l0 = some r) (hr_ : r = true) :
  Calls Tryd.prog 6 #[.slice A0 l0.length c0] w fun e w' => e = .returned (.bool r) ∧ Below w.heap.size w w' := by
 have HR_ := Aside0.mk hr_
 clear hr_
 have HR0 := Aside0.mk hr0
 have HC0 := Aside0.mk hc0
 clear hr0 hc0
 have HB := Aside0.mk (Below.refl w.heap.size w)
 have H : ((runs_Row.f k l0).bind fun bt328 => ((incunablelaw06_isRow.f k l0).bind fun t332 => (if t332 = true then (if bt328.2 = 0 then ((incunableref06_Row.f k l0).bind fun t334 => ((incunableref02_SameInts.f k bt328.1 t334).bind fun t337 => (incunablelaw06_RunsRow.j0 k l0 bt328.1 (!t337)))) else (incunablelaw06_RunsRow.j0 k l0 bt328.1 true)) else (if (bt328.1.length : Int) = 0 then (if bt328.2 = 2 then ((incunablelaw06_Awake.f k).bind fun t333 => (some t333)) else (some false)) else (some false))))) = some r := h
 clear h
 replace H := Option.bind_eq_some_iff.mp H
 obtain ⟨⟨t328, t329⟩, A20, H⟩ := H
 replace H : ((incunablelaw06_isRow.f k l0).bind fun t332 => (if t332 = true then (if t329 = 0 then ((incunableref06_Row.f k l0).bind fun t334 => ((incunableref02_SameInts.f k t328 t334).bind fun t337 => (incunablelaw06_RunsRow.j0 k l0 t328 (!t337)))) else (incunablelaw06_RunsRow.j0 k l0 t328 true)) else (if (t328.length : Int) = 0 then (if t329 = 2 then ((incunablelaw06_Awake.f k).bind fun t333 => (some t333)) else (some false)) else (some false)))) = some r := H
 have A2 := Aside0.mk A20
 clear A20
 replace H := Option.bind_eq_some_iff.mp H
 obtain ⟨t332, A30, H⟩ := H
 replace H : (if t332 = true then (if t329 = 0 then ((incunableref06_Row.f k l0).bind fun t334 => ((incunableref02_SameInts.f k t328 t334).bind fun t337 => (incunablelaw06_RunsRow.j0 k l0 t328 (!t337)))) else (incunablelaw06_RunsRow.j0 k l0 t328 true)) else (if (t328.length : Int) = 0 then (if t329 = 2 then ((incunablelaw06_Awake.f k).bind fun t333 => (some t333)) else (some false)) else (some false))) = some r := H
 have A3 := Aside0.mk A30
 clear A30
 by_cases c4 : t332 = true
 ·subst c4
  have H1 : (if t329 = 0 then ((incunableref06_Row.f k l0).bind fun t334 => ((incunableref02_SameInts.f k t328 t334).bind fun t337 => (incunablelaw06_RunsRow.j0 k l0 t328 (!t337)))) else (incunablelaw06_RunsRow.j0 k l0 t328 true)) = some r := by rw [if_pos rfl] at H; exact H
  clear H
  have H := H1
  clear H1
  have HC5 := Aside0.mk H
  clear H
  go_enter Tryd.func6, Tryd.ntmps6
  go_upto_region 4 with (first | ((with_reducible refine gf 21 rfl ?_); refine gL (some 8) rfl rfl Tryd.func21 rfl #[.slice A0 l0.length c0] rfl ?_; (with_reducible refine (runs_Row.calls k _ _ l0 t328 t329 _ ?side1 ?side2 A2.out).mono ?_); (case side1 => exact cU HR0.out); (case side2 => exact HC0.out); rintro e w6 ⟨v330, rfl, ho0, hb⟩; refine ⟨_, rfl, ?_⟩; have n_ := aC (Kd.R_lower ho0 bz) (aE (bs hb)); clear HB; obtain ⟨HO331, HB⟩ := n_; (try clear hb); (try clear ho0)) | ((with_reducible refine gf 17 rfl ?_); refine gL (some 12) rfl rfl Tryd.func17 rfl #[.slice A0 l0.length c0] rfl ?_; (with_reducible refine (incunablelaw06_isRow.calls k _ _ l0 true _ ?side1 ?side2 A3.out).mono ?_); (case side1 => exact cU (Kd.C_below HR0.out HB.out)); (case side2 => exact HC0.out); rintro e w' ⟨rfl, ⟨nd, rfl⟩⟩; refine ⟨_, rfl, ?_⟩))
  (try simp only [Act.put, List.setIfInBounds_toArray, List.set_cons_zero, List.set_cons_succ])
  go_cut [32] (fun v32 wc => ∃ (kq : Nat) (x32_4 : Bool), v32 = .bool x32_4 ∧ Aside0 (incunablelaw06_RunsRow.j0 kq l0 t328 x32_4 = some r) ∧ Aside0 (kq ≤ k) ∧ Aside0 (Kd.R (Kd.int .i64) 3 wc w.heap.size (fun _ => True) v330 t328) ∧ Aside0 (Below w.heap.size w wc))
  case first =>
   have H := HC5.out
   clear HC5
   by_cases c7 : t329 = 0
   ·rw [if_pos c7] at H
    have c7b0 := beq_iff_eq.mpr c7
    have c7b1 := bne_eq_false_iff_eq.mpr c7
    clear c7
    (first | rw [c7b0] | (simp only [i64_w, i32_w]; rw [c7b0]) | skip)
    replace H := Option.bind_eq_some_iff.mp H
    obtain ⟨t334, A80, H⟩ := H
    replace H : ((incunableref02_SameInts.f k t328 t334).bind fun t337 => (incunablelaw06_RunsRow.j0 k l0 t328 (!t337))) = some r := H
    have A8 := Aside0.mk A80
    clear A80
    replace H := Option.bind_eq_some_iff.mp H
    obtain ⟨t337, A90, H⟩ := H
    replace H : (incunablelaw06_RunsRow.j0 k l0 t328 (!t337)) = some r := H
    have A9 := Aside0.mk A90
    clear A90
    have H' := Aside0.mk H
    clear H
    go_wp2_with (first | (go_at_call 23; (with_reducible refine (incunableref06_Row.calls k _ _ l0 t334 _ ?side1 ?side2 A8.out).mono ?_); (case side1 => exact cU (Kd.C_below HR0.out HB.out)); (case side2 => exact HC0.out); rintro e w10 ⟨v335, rfl, ho0, hb⟩; have n_ := aC (Kd.R_elder' (rU HO331.out) (Kd.R_base ho0) hb) (aC (Kd.R_lower (Kd.R_new' ho0 (Kd.R_lt (rU HO331.out))) bz) (aE (bs hb))); clear HO331 HB; obtain ⟨HO331, HO336, HB⟩ := n_; (try clear hb); (try clear ho0); obtain ⟨Ao11, co11, eo11⟩ := Kd.R_slice HO331.out; subst eo11; obtain ⟨Ao12, co12, eo12⟩ := Kd.R_slice HO336.out; subst eo12) | (go_at_call 22; (with_reducible refine (incunableref02_SameInts.calls k _ _ t328 _ _ t334 t337 _ ?side1 ?side2 ?side3 ?side4 A9.out).mono ?_); (case side1 => exact cU (Kd.R_reads' HO331.out).2.2); (case side2 => exact (Kd.R_reads' HO331.out).2.1); (case side3 => exact cU (Kd.R_reads' HO336.out).2.2); (case side4 => exact (Kd.R_reads' HO336.out).2.1); rintro e w' ⟨rfl, ⟨nd, rfl⟩⟩))
    go_meet
    case rel => exact ⟨_, (!t337), rq, H', ⟨by first | omega | exact Nat.le_refl _⟩, ⟨rU (Kd.R_mono HO331.out (fun _ hk => trivial))⟩, ⟨bl⟩⟩
   ·rw [if_neg c7] at H
    have c7b0 := beq_eq_false_iff_ne.mpr c7
    have c7b1 := bne_iff_ne.mpr c7
    (first | rw [c7b0] | (simp only [i64_w, i32_w]; rw [c7b0]) | skip)
    have H' := Aside0.mk H
    clear H
    go_wp2
    go_meet
    case rel => exact ⟨_, (true), rq, H', ⟨by first | omega | exact Nat.le_refl _⟩, ⟨rU HO331.out⟩, ⟨bl⟩⟩
  case rest =>
   clear HC5
   obtain ⟨kq, x32_4, rfl, HA, HJ4, HO_3, HB⟩ := hcut
   cases kq with
   | zero => exact absurd HA.out (by simp [incunablelaw06_RunsRow.j0])
   | succ kj4 =>
    have H := HA.out
    clear HA
    simp only [incunablelaw06_RunsRow.j0] at H
    by_cases c13 : x32_4 = true
    ·subst c13
     have H1 : (some false) = some r := by rw [if_pos rfl] at H; exact H
     clear H
     have H := H1
     clear H1
     exact absurd ((Option.some.inj H).trans HR_.out) (by decide)
    ·replace c13 := Bool.eq_false_iff.mpr c13
     subst c13
     have H1 : ((runs_FromRow.f kj4 t328 (l0.length : Int)).bind fun bt338 => (if bt338.2 = 0 then ((incunableref02_SameBytes.f kj4 bt338.1 l0).bind fun t342 => (if t342 = true then ((incunablelaw06_Awake.f kj4).bind fun t343 => (some t343)) else (some false))) else (some false))) = some r := by rw [if_neg (show ¬ (false = true) by decide)] at H; exact H
     clear H
     have H := H1
     clear H1
     replace H := Option.bind_eq_some_iff.mp H
     obtain ⟨⟨t338, t339⟩, A140, H⟩ := H
     replace H : (if t339 = 0 then ((incunableref02_SameBytes.f kj4 t338 l0).bind fun t342 => (if t342 = true then ((incunablelaw06_Awake.f kj4).bind fun t343 => (some t343)) else (some false))) else (some false)) = some r := H
     have A14 := Aside0.mk A140
     clear A140
     by_cases c15 : t339 = 0
     ·rw [if_pos c15] at H
      have c15b0 := beq_iff_eq.mpr c15
      have c15b1 := bne_eq_false_iff_eq.mpr c15
      clear c15
      replace H := Option.bind_eq_some_iff.mp H
      obtain ⟨t342, A160, H⟩ := H
      replace H : (if t342 = true then ((incunablelaw06_Awake.f kj4).bind fun t343 => (some t343)) else (some false)) = some r := H
      have A16 := Aside0.mk A160
      clear A160
      by_cases c17 : t342 = true
      ·subst c17
       have H1 : ((incunablelaw06_Awake.f kj4).bind fun t343 => (some t343)) = some r := by rw [if_pos rfl] at H; exact H
       clear H
       have H := H1
       clear H1
       replace H := Option.bind_eq_some_iff.mp H
       obtain ⟨t343, A180, H⟩ := H
       replace H : (some t343) = some r := H
       have A18 := Aside0.mk A180
       clear A180
       obtain rfl := Option.some.inj H
       obtain ⟨Ao19, co19, eo19⟩ := Kd.R_slice HO_3.out
       subst eo19
       go_wp2_with (first | ((with_reducible refine gf 19 rfl ?_); refine gL (some 37) rfl rfl Tryd.func19 rfl #[.slice Ao19 t328.length co19, .int .i64 (l0.length : Int)] rfl ?_; (with_reducible refine (runs_FromRow.calls kj4 _ _ t328 (l0.length : Int) t338 t339 _ ?side1 ?side2 A14.out).mono ?_); (case side1 => exact cU (Kd.R_reads' HO_3.out).2.2); (case side2 => exact (Kd.R_reads' HO_3.out).2.1); rintro e w20 ⟨v340, rfl, ho0, hb⟩; refine ⟨_, rfl, ?_⟩; have n_ := aC (Kd.R_below (rU HO_3.out) hb) (aC (Kd.R_lower ho0 bz) (aE (bs hb))); clear HO_3 HB; obtain ⟨HO_3, HO341, HB⟩ := n_; (try clear hb); (try clear ho0); obtain ⟨Ao21, co21, eo21⟩ := Kd.R_slice HO341.out; subst eo21) | (go_at_call 14; (with_reducible refine (incunableref02_SameBytes.calls kj4 _ _ t338 _ _ l0 true _ ?side1 ?side2 ?side3 ?side4 A16.out).mono ?_); (case side1 => exact cU (Kd.R_reads' HO341.out).2.2); (case side2 => exact (Kd.R_reads' HO341.out).2.1); (case side3 => exact cU (Kd.C_below HR0.out HB.out)); (case side4 => exact HC0.out); rintro e w' ⟨rfl, ⟨nd, rfl⟩⟩) | (go_at_call 13; (with_reducible refine (incunablelaw06_Awake.calls kj4  t343 _ A18.out).mono ?_); rintro e w22 ⟨rfl, hb⟩; have n_ := aC (Kd.R_below (rU HO_3.out) hb) (aC (Kd.R_below (rU HO341.out) hb) (aE (bs hb))); clear HO_3 HO341 HB; obtain ⟨HO_3, HO341, HB⟩ := n_; (try clear hb)))
       go_ret
       exact ⟨re, bl⟩
      ·replace c17 := Bool.eq_false_iff.mpr c17
       subst c17
       have H1 : (some false) = some r := by rw [if_neg (show ¬ (false = true) by decide)] at H; exact H
       clear H
       have H := H1
       clear H1
       exact absurd ((Option.some.inj H).trans HR_.out) (by decide)
     ·rw [if_neg c15] at H
      have c15b0 := beq_eq_false_iff_ne.mpr c15
      have c15b1 := bne_iff_ne.mpr c15
      exact absurd ((Option.some.inj H).trans HR_.out) (by decide)
 ·replace c4 := Bool.eq_false_iff.mpr c4
  subst c4
  have H1 : (if (t328.length : Int) = 0 then (if t329 = 2 then ((incunablelaw06_Awake.f k).bind fun t333 => (some t333)) else (some false)) else (some false)) = some r := by rw [if_neg (show ¬ (false = true) by decide)] at H; exact H
  clear H
  have H := H1
  clear H1
  by_cases c23 : (t328.length : Int) = 0
  ·rw [if_pos c23] at H
   have c23b0 := beq_iff_eq.mpr c23
   have c23b1 := bne_eq_false_iff_eq.mpr c23
   clear c23
   by_cases c24 : t329 = 2
   ·rw [if_pos c24] at H
    have c24b0 := beq_iff_eq.mpr c24
    have c24b1 := bne_eq_false_iff_eq.mpr c24
    clear c24
    replace H := Option.bind_eq_some_iff.mp H
    obtain ⟨t333, A250, H⟩ := H
    replace H : (some t333) = some r := H
    have A25 := Aside0.mk A250
    clear A250
    obtain rfl := Option.some.inj H
    go_enter Tryd.func6, Tryd.ntmps6
    go_wp2_with (first | ((with_reducible refine gf 21 rfl ?_); refine gL (some 8) rfl rfl Tryd.func21 rfl #[.slice A0 l0.length c0] rfl ?_; (with_reducible refine (runs_Row.calls k _ _ l0 t328 t329 _ ?side1 ?side2 A2.out).mono ?_); (case side1 => exact cU HR0.out); (case side2 => exact HC0.out); rintro e w26 ⟨v330, rfl, ho0, hb⟩; refine ⟨_, rfl, ?_⟩; have n_ := aC (Kd.R_lower ho0 bz) (aE (bs hb)); clear HB; obtain ⟨HO331, HB⟩ := n_; (try clear hb); (try clear ho0)) | ((with_reducible refine gf 17 rfl ?_); refine gL (some 12) rfl rfl Tryd.func17 rfl #[.slice A0 l0.length c0] rfl ?_; (with_reducible refine (incunablelaw06_isRow.calls k _ _ l0 false _ ?side1 ?side2 A3.out).mono ?_); (case side1 => exact cU (Kd.C_below HR0.out HB.out)); (case side2 => exact HC0.out); rintro e w' ⟨rfl, ⟨nd, rfl⟩⟩; refine ⟨_, rfl, ?_⟩; obtain ⟨Ao27, co27, eo27⟩ := Kd.R_slice HO331.out; subst eo27) | (go_at_call 13; (with_reducible refine (incunablelaw06_Awake.calls k  t333 _ A25.out).mono ?_); rintro e w28 ⟨rfl, hb⟩; have n_ := aC (Kd.R_below (rU HO331.out) hb) (aE (bs hb)); clear HO331 HB; obtain ⟨HO331, HB⟩ := n_; (try clear hb)))
    go_ret
    exact ⟨re, bl⟩
   ·rw [if_neg c24] at H
    have c24b0 := beq_eq_false_iff_ne.mpr c24
    have c24b1 := bne_iff_ne.mpr c24
    exact absurd ((Option.some.inj H).trans HR_.out) (by decide)
  ·rw [if_neg c23] at H
   have c23b0 := beq_eq_false_iff_ne.mpr c23
   have c23b1 := bne_iff_ne.mpr c23
   have c23b2 : ¬ (t328 = []) := fun h_ => c23 (by rw [h_]; rfl)
   exact absurd ((Option.some.inj H).trans HR_.out) (by decide)

/-- THE ONE PURE STATEMENT of incunablelaw06_RunsRow: yours. -/
def incunablelaw06_RunsRow.Pure : Prop := ∀ (l0 : List Int), (l0.length ≤ 9223372036854775807 ∧ l0.length * 1 ≤ 140737488351232 ∧ ∀ y0_ ∈ l0, (Lit.int .u8 y0_).wf = true) → ∃ k, incunablelaw06_RunsRow.f k l0 = some true
theorem incunablelaw06_RunsRow.walk (P : incunablelaw06_RunsRow.Pure) (A0 : Option Addr) (c0 : Nat) (l0 : List Int) (w : World) (hr0 : Kd.C (Kd.int .u8) w A0 l0.length l0) (hc0 : l0.length ≤ c0) (g0 : l0.length ≤ 9223372036854775807 ∧ l0.length * 1 ≤ 140737488351232 ∧ ∀ y0_ ∈ l0, (Lit.int .u8 y0_).wf = true) :
  Calls Tryd.prog 6 #[.slice A0 l0.length c0] w fun e w' => e = .returned (.bool true) ∧ Below w.heap.size w w' := by
 obtain ⟨k, h⟩ := P l0 g0
 refine (incunablelaw06_RunsRow.calls k A0 c0 l0 true w hr0 hc0 h rfl).mono ?_
 rintro e w' ⟨rfl, hd⟩
 exact ⟨rfl, hd⟩

end Go.Proofs.YtknclbodinfbeaaDoor.PRunsRow
