-- Written by a program of this session (wip/tools/myprint.py) over the kit's print. Not trusted: Lean checks it.
import Derived.Test.YtknclbodinfbeaaDoorPRunsAgainx0
namespace Go.Proofs.YtknclbodinfbeaaDoor.PRunsAgain
open Go.RowKit Go.Proofs.YtknclbodinfbeaaDoorW.PrintWords Go.Proofs.YtknclbodinfbeaaDoorW.PrintLast Go.Proofs.YtknclbodinfbeaaDoorW.PrintMore
attribute [local go_sem] max2_int min2_int max_two min_two max_three min_three max_four min_four   -- for this text's walks alone
set_option linter.unusedVariables false
set_option linter.unusedSimpArgs false

/-! ### runs_row: function 46 -/
mutual
def runs_row.l0 : Nat → List Int → List Int → Int → Int → Option (List Int)
 | 0, _, _, _, _ => none
 | k + 1, x0, x3, x4, x5 => if x5 < (x0.length : Int) then (runs_row.l1 k x0 x3 x4 x5 x5) else (some x3)
def runs_row.l1 : Nat → List Int → List Int → Int → Int → Int → Option (List Int)
 | 0, _, _, _, _, _ => none
 | k + 1, x0, x3, x4, x5, x6 => if x5 < (x0.length : Int) then (if 0 ≤ x5 then (if (rd x0 x5) = x4 then (runs_row.l1 k x0 x3 x4 (wrap64 (x5 + 1)) x6) else (if x3.length < 17592186044416 then (runs_row.l0 k x0 (x3 ++ [wrap64 (x5 - x6)]) ((1 - x4) % 256) x5) else (none))) else (none)) else (if x3.length < 17592186044416 then (runs_row.l0 k x0 (x3 ++ [wrap64 (x5 - x6)]) ((1 - x4) % 256) x5) else (none))
end
def runs_row.f (k : Nat) (l0 : List Int) : Option (List Int) := runs_row.l0 k l0 ([] : List Int) 0 0
theorem runs_row.mono_l : ∀ k, (∀ y0 y1 y2 y3, LeO (runs_row.l0 k y0 y1 y2 y3) (runs_row.l0 (k + 1) y0 y1 y2 y3)) ∧ (∀ y0 y1 y2 y3 y4, LeO (runs_row.l1 k y0 y1 y2 y3 y4) (runs_row.l1 (k + 1) y0 y1 y2 y3 y4))
 | 0 => ⟨fun _ _ _ _ r h => by simp [runs_row.l0] at h, fun _ _ _ _ _ r h => by simp [runs_row.l1] at h⟩
 | k + 1 => by
  obtain ⟨ih0, ih1⟩ := runs_row.mono_l k
  refine ⟨?_, ?_⟩
  ·intro y0 y1 y2 y3
   unfold runs_row.l0
   repeat' first
   | (with_reducible exact ih0 _ _ _ _)
   | (with_reducible exact ih1 _ _ _ _ _)
   | (with_reducible first | exact LeO.refl _ | exact LeO.none _ | refine LeO.ite ?_ ?_ | refine LeO.bind ?_ (fun _ => ?_))
   | exact ih0 _ _ _ _
   | exact ih1 _ _ _ _ _
   | exact LeO.none _ | refine LeO.ite ?_ ?_ | refine LeO.bind ?_ (fun _ => ?_)
  ·intro y0 y1 y2 y3 y4
   unfold runs_row.l1
   repeat' first
   | (with_reducible exact ih0 _ _ _ _)
   | (with_reducible exact ih1 _ _ _ _ _)
   | (with_reducible first | exact LeO.refl _ | exact LeO.none _ | refine LeO.ite ?_ ?_ | refine LeO.bind ?_ (fun _ => ?_))
   | exact ih0 _ _ _ _
   | exact ih1 _ _ _ _ _
   | exact LeO.none _ | refine LeO.ite ?_ ?_ | refine LeO.bind ?_ (fun _ => ?_)
theorem runs_row.mono : ∀ a0 k, LeO (runs_row.f k a0) (runs_row.f (k + 1) a0) := by
 intro a0 k
 obtain ⟨ih0, ih1⟩ := runs_row.mono_l k
 unfold runs_row.f
 repeat' first
   | (with_reducible exact ih0 _ _ _ _)
   | (with_reducible exact ih1 _ _ _ _ _)
   | (with_reducible first | exact LeO.refl _ | exact LeO.none _ | refine LeO.ite ?_ ?_ | refine LeO.bind ?_ (fun _ => ?_))
   | exact ih0 _ _ _ _
   | exact ih1 _ _ _ _ _
   | exact LeO.none _ | refine LeO.ite ?_ ?_ | refine LeO.bind ?_ (fun _ => ?_)
set_option maxHeartbeats 8000000 in
set_option maxRecDepth 100000 in
theorem runs_row.calls (k : Nat) (A0 : Option Addr) (c0 : Nat) (l0 : List Int) (r : List Int) (w : World) (hr0 : Kd.C (Kd.int .u8) w A0 l0.length l0) (hc0 : l0.length ≤ c0) (h : runs_row.f k l0 = some r) :
  Calls Tryd.prog 46 #[.slice A0 l0.length c0] w fun e w' => ∃ v0_ : Value, e = .returned (v0_) ∧ Kd.R (Kd.int .i64) 3 w' w.heap.size (fun _ => True) v0_ r ∧ Below w.heap.size w w' := by
 have HR0 := Aside0.mk hr0
 have HC0 := Aside0.mk hc0
 clear hr0 hc0
 have HB := Aside0.mk (Below.refl w.heap.size w)
 have H : (runs_row.l0 k l0 ([] : List Int) 0 0) = some r := h
 clear h
 have H' := Aside0.mk H
 clear H
 go_enter Tryd.func46, Tryd.ntmps46
 go_wp2
 go_loopg [3, 4, 5] k (fun kq v3 v4 v5 w' => ∃ (x3_1 : List Int) (x4_1 : Int) (x5_1 : Int), v4 = .int .u8 x4_1 ∧ v5 = .int .i64 x5_1 ∧ Aside0 (runs_row.l0 kq l0 x3_1 x4_1 x5_1 = some r) ∧ Aside0 (kq ≤ k) ∧ Aside0 (Kd.R (Kd.int .i64) 3 w' w.heap.size (fun _ => True) v3 x3_1) ∧ Aside0 (Below w.heap.size w w'))
 case atStart => exact ⟨(([] : List Int)), (0), (0), rq, rq, H', ⟨Nat.le_refl _⟩, ⟨by first | exact Kd.R_nil _ _ _ _ _ | exact Kd.N_nil _ _ _ _ _ | exact Kd.V_nil _ _ _ _ _ | exact Kd.Q_nil _ _ _ _ _ | exact Kd.S_nil _ _ _ _ _⟩, ⟨bl⟩⟩
 case round =>
  clear H'
  obtain ⟨x3_1, x4_1, x5_1, rfl, rfl, HA, HK1, HO_3, HB⟩ := hrel
  cases gk with
  | zero => exact absurd HA.out (by simp [runs_row.l0])
  | succ k1 =>
   have H := HA.out
   clear HA
   simp only [runs_row.l0] at H
   by_cases c2 : x5_1 < (l0.length : Int)
   ·rw [if_pos c2] at H
    have c2b0 := decide_eq_true c2
    clear c2
    have H' := Aside0.mk H
    clear H
    go_wp2
    go_loopg [5] k1 (fun kq v5 w' => ∃ (x5_2 : Int), v5 = .int .i64 x5_2 ∧ Aside0 (runs_row.l1 kq l0 x3_1 x4_1 x5_2 x5_1 = some r) ∧ Aside0 (kq ≤ k1) ∧ Aside0 (Kd.R (Kd.int .i64) 3 w' w.heap.size (fun _ => True) u3 x3_1) ∧ Aside0 (Below w.heap.size w w'))
    case atStart => exact ⟨(x5_1), rq, H', ⟨Nat.le_refl _⟩, ⟨rU HO_3.out⟩, ⟨bl⟩⟩
    case round =>
     clear H'
     obtain ⟨x5_2, rfl, HA, HK2, HO_3, HB⟩ := hrel
     cases gk with
     | zero => exact absurd HA.out (by simp [runs_row.l1])
     | succ k2 =>
      have H := HA.out
      clear HA
      simp only [runs_row.l1] at H
      by_cases c3 : x5_2 < (l0.length : Int)
      ·rw [if_pos c3] at H
       have c3b0 := decide_eq_true c3
       clear c3
       by_cases c4 : 0 ≤ x5_2
       ·rw [if_pos c4] at H
        have c4b0 := decide_eq_true c4
        clear c4
        by_cases c5 : (rd l0 x5_2) = x4_1
        ·rw [if_pos c5] at H
         have c5b0 := beq_iff_eq.mpr c5
         have c5b1 := bne_eq_false_iff_eq.mpr c5
         clear c5
         have H' := Aside0.mk H
         clear H
         have p270 : 0 ≤ (x5_2 : Int) := dt
         have q270 : x5_2 < (l0.length : Int) := dt
         obtain ⟨ad270, e270, hx270_0⟩ := Kd.at_int HR0.out x5_2 p270 q270
         cases e270
         replace hx270_0 := hcB HB.out hx270_0
         replace p270 := eq_true p270
         replace q270 := eq_true q270
         go_wp2
         go_roundg k2
         case measure => have := HK1.out; have := HK2.out; omega
         case rel => exact ⟨(wrap64 (x5_2 + 1)), rq, H', ⟨by have := HK1.out; have := HK2.out; omega⟩, ⟨rU HO_3.out⟩, ⟨bl⟩⟩
        ·rw [if_neg c5] at H
         have c5b0 := beq_eq_false_iff_ne.mpr c5
         have c5b1 := bne_iff_ne.mpr c5
         by_cases c6 : x3_1.length < 17592186044416
         ·rw [if_pos c6] at H
          have LMc6 := Aside0.mk c6
          clear c6
          obtain ⟨y271, hy_⟩ : ∃ y_ : List Int, y_ = (x3_1 ++ [wrap64 (x5_2 - x5_1)]) := ⟨_, rfl⟩
          replace H : (runs_row.l0 k2 l0 y271 ((1 - x4_1) % 256) x5_2) = some r := rh
          have Ny271 := aE hy_
          clear hy_
          have H' := Aside0.mk H
          clear H
          have p270 : 0 ≤ (x5_2 : Int) := dt
          have q270 : x5_2 < (l0.length : Int) := dt
          obtain ⟨ad270, e270, hx270_0⟩ := Kd.at_int HR0.out x5_2 p270 q270
          cases e270
          replace hx270_0 := hcB HB.out hx270_0
          replace p270 := eq_true p270
          replace q270 := eq_true q270
          go_wp2_with (first | ((with_reducible refine gate_builtin (b := .append) (xs := #[.tmp 26, .tmp 30]) rfl ?_); at_builtin; refine Kd.R_append (Kd.int .i64) (w0 := w) w.heap.size rfl (.tmp 26) (.tmp 30) 38 3 (.int .i64 0) 8 rfl Tryd.underlying38 info3 rfl (by decide) (by omega) u3 x3_1 (wrap64 (x5_2 - x5_1)) [.int .i64 (wrap64 (x5_2 - x5_1))] (fun _ => True) (fun _ => False) rfl rfl ?aP (fun _ hk => hk.elim) ?aF ?aO ?aB ?aS ?aL ?_; (case aP => exact rfl); (case aB => exact bl); (case aF => exact (fun _ _ => trivial)); (case aO => exact (rU HO_3.out)); (case aS => exact bz); (case aL => have := LMc6.out; omega); intro v272 w7 ho hb hg hat; rw [← Ny271.out] at ho; have n_ := aC hb (aE ho); clear HB HO_3; obtain ⟨HB, HO273⟩ := n_; clear ho hb hg hat))
          go_roundg k2
          case measure => have := HK1.out; have := HK2.out; omega
          case rel => exact ⟨(y271), ((1 - x4_1) % 256), (x5_2), rq, rq, H', ⟨by have := HK1.out; have := HK2.out; omega⟩, ⟨rU HO273.out⟩, ⟨bl⟩⟩
         ·rw [if_neg c6] at H
          exact absurd H (by simp)
       ·rw [if_neg c4] at H
        exact absurd H (by simp)
      ·rw [if_neg c3] at H
       have c3b0 := decide_eq_false c3
       clear c3
       by_cases c8 : x3_1.length < 17592186044416
       ·rw [if_pos c8] at H
        have LMc8 := Aside0.mk c8
        clear c8
        obtain ⟨y274, hy_⟩ : ∃ y_ : List Int, y_ = (x3_1 ++ [wrap64 (x5_2 - x5_1)]) := ⟨_, rfl⟩
        replace H : (runs_row.l0 k2 l0 y274 ((1 - x4_1) % 256) x5_2) = some r := rh
        have Ny274 := aE hy_
        clear hy_
        have H' := Aside0.mk H
        clear H
        go_wp2_with (first | ((with_reducible refine gate_builtin (b := .append) (xs := #[.tmp 26, .tmp 30]) rfl ?_); at_builtin; refine Kd.R_append (Kd.int .i64) (w0 := w) w.heap.size rfl (.tmp 26) (.tmp 30) 38 3 (.int .i64 0) 8 rfl Tryd.underlying38 info3 rfl (by decide) (by omega) u3 x3_1 (wrap64 (x5_2 - x5_1)) [.int .i64 (wrap64 (x5_2 - x5_1))] (fun _ => True) (fun _ => False) rfl rfl ?aP (fun _ hk => hk.elim) ?aF ?aO ?aB ?aS ?aL ?_; (case aP => exact rfl); (case aB => exact bl); (case aF => exact (fun _ _ => trivial)); (case aO => exact (rU HO_3.out)); (case aS => exact bz); (case aL => have := LMc8.out; omega); intro v275 w9 ho hb hg hat; rw [← Ny274.out] at ho; have n_ := aC hb (aE ho); clear HB HO_3; obtain ⟨HB, HO276⟩ := n_; clear ho hb hg hat))
        go_roundg k2
        case measure => have := HK1.out; have := HK2.out; omega
        case rel => exact ⟨(y274), ((1 - x4_1) % 256), (x5_2), rq, rq, H', ⟨by have := HK1.out; have := HK2.out; omega⟩, ⟨rU HO276.out⟩, ⟨bl⟩⟩
       ·rw [if_neg c8] at H
        exact absurd H (by simp)
   ·rw [if_neg c2] at H
    have c2b0 := decide_eq_false c2
    clear c2
    obtain rfl := Option.some.inj H
    go_wp2
    go_ret
    exact ⟨_, re, rU HO_3.out, bl⟩

/-! ### bitmap_fits: function 75 -/
def bitmap_fits.f (a0 : Int) (a1 : Int) : Option (Bool) := if a0 ≥ 0 then (if a1 ≥ 0 then (if a0 ≤ 200 then (if a1 ≤ 200 then (some (decide ((wrap64 (a0 * a1)) ≤ 8192))) else (some false)) else (some false)) else (some false)) else (some false)
set_option maxHeartbeats 8000000 in
set_option maxRecDepth 100000 in
theorem bitmap_fits.calls (a0 : Int) (a1 : Int) (r : Bool) (w : World) (h : bitmap_fits.f a0 a1 = some r) :
  Calls Tryd.prog 75 #[.int .i64 a0, .int .i64 a1] w fun e w' => e = .returned (.bool r) ∧ Drawn0 w w' := by
 have H : (if a0 ≥ 0 then (if a1 ≥ 0 then (if a0 ≤ 200 then (if a1 ≤ 200 then (some (decide ((wrap64 (a0 * a1)) ≤ 8192))) else (some false)) else (some false)) else (some false)) else (some false)) = some r := h
 clear h
 by_cases c3 : a0 ≥ 0
 ·rw [if_pos c3] at H
  have c3b0 := decide_eq_true c3
  clear c3
  by_cases c4 : a1 ≥ 0
  ·rw [if_pos c4] at H
   have c4b0 := decide_eq_true c4
   clear c4
   by_cases c5 : a0 ≤ 200
   ·rw [if_pos c5] at H
    have c5b0 := decide_eq_true c5
    clear c5
    by_cases c6 : a1 ≤ 200
    ·rw [if_pos c6] at H
     have c6b0 := decide_eq_true c6
     clear c6
     obtain rfl := Option.some.inj H
     go_enter Tryd.func75, Tryd.ntmps75
     go_wp2
     go_ret
     exact ⟨by first | rfl | (simp; done) | (simp [*]; done), by repeat (first | exact Drawn0.refl _ | apply Drawn0.step)⟩
    ·rw [if_neg c6] at H
     have c6b0 := decide_eq_false c6
     clear c6
     obtain rfl := Option.some.inj H
     go_enter Tryd.func75, Tryd.ntmps75
     go_wp2
     go_ret
     exact ⟨by first | rfl | (simp; done) | (simp [*]; done), by repeat (first | exact Drawn0.refl _ | apply Drawn0.step)⟩
   ·rw [if_neg c5] at H
    have c5b0 := decide_eq_false c5
    clear c5
    obtain rfl := Option.some.inj H
    go_enter Tryd.func75, Tryd.ntmps75
    go_wp2
    go_ret
    exact ⟨by first | rfl | (simp; done) | (simp [*]; done), by repeat (first | exact Drawn0.refl _ | apply Drawn0.step)⟩
  ·rw [if_neg c4] at H
   have c4b0 := decide_eq_false c4
   clear c4
   obtain rfl := Option.some.inj H
   go_enter Tryd.func75, Tryd.ntmps75
   go_wp2
   go_ret
   exact ⟨by first | rfl | (simp; done) | (simp [*]; done), by repeat (first | exact Drawn0.refl _ | apply Drawn0.step)⟩
 ·rw [if_neg c3] at H
  have c3b0 := decide_eq_false c3
  clear c3
  obtain rfl := Option.some.inj H
  go_enter Tryd.func75, Tryd.ntmps75
  go_wp2
  go_ret
  exact ⟨by first | rfl | (simp; done) | (simp [*]; done), by repeat (first | exact Drawn0.refl _ | apply Drawn0.step)⟩

/-! ### bitmap_Valid: function 47 -/
mutual
def bitmap_Valid.j0 : Nat → Bool → Int → Int → List Int → Option (Bool)
 | 0, _, _, _, _ => none
 | k + 1, x21, x278000, x278001, x278002 => if x21 = true then (some false) else (bitmap_Valid.l0 k x278002 (x278002.length : Int) 0)
def bitmap_Valid.l0 : Nat → List Int → Int → Int → Option (Bool)
 | 0, _, _, _ => none
 | k + 1, x23, x24, x25 => if x25 < x24 then (if 0 ≤ x25 then (if x25 < (x23.length : Int) then (if (rd x23 x25) > 1 then (some false) else (bitmap_Valid.l0 k x23 x24 (wrap64 (x25 + 1)))) else (none)) else (none)) else (some true)
end
def bitmap_Valid.f (k : Nat) (a0_0 : Int) (a0_1 : Int) (l0_2 : List Int) : Option (Bool) := (bitmap_fits.f a0_0 a0_1).bind fun t278 => (if t278 = true then (bitmap_Valid.j0 k ((l0_2.length : Int) != (wrap64 (a0_0 * a0_1))) a0_0 a0_1 l0_2) else (bitmap_Valid.j0 k true a0_0 a0_1 l0_2))
theorem bitmap_Valid.mono_l : ∀ k, (∀ y0 y1 y2 y3, LeO (bitmap_Valid.j0 k y0 y1 y2 y3) (bitmap_Valid.j0 (k + 1) y0 y1 y2 y3)) ∧ (∀ y0 y1 y2, LeO (bitmap_Valid.l0 k y0 y1 y2) (bitmap_Valid.l0 (k + 1) y0 y1 y2))
 | 0 => ⟨fun _ _ _ _ r h => by simp [bitmap_Valid.j0] at h, fun _ _ _ r h => by simp [bitmap_Valid.l0] at h⟩
 | k + 1 => by
  obtain ⟨ih0, ih1⟩ := bitmap_Valid.mono_l k
  refine ⟨?_, ?_⟩
  ·intro y0 y1 y2 y3
   unfold bitmap_Valid.j0
   repeat' first
   | (with_reducible exact ih0 _ _ _ _)
   | (with_reducible exact ih1 _ _ _)
   | (with_reducible first | exact LeO.refl _ | exact LeO.none _ | refine LeO.ite ?_ ?_ | refine LeO.bind ?_ (fun _ => ?_))
   | exact ih0 _ _ _ _
   | exact ih1 _ _ _
   | exact LeO.none _ | refine LeO.ite ?_ ?_ | refine LeO.bind ?_ (fun _ => ?_)
  ·intro y0 y1 y2
   unfold bitmap_Valid.l0
   repeat' first
   | (with_reducible exact ih0 _ _ _ _)
   | (with_reducible exact ih1 _ _ _)
   | (with_reducible first | exact LeO.refl _ | exact LeO.none _ | refine LeO.ite ?_ ?_ | refine LeO.bind ?_ (fun _ => ?_))
   | exact ih0 _ _ _ _
   | exact ih1 _ _ _
   | exact LeO.none _ | refine LeO.ite ?_ ?_ | refine LeO.bind ?_ (fun _ => ?_)
theorem bitmap_Valid.mono : ∀ a0 a1 a2 k, LeO (bitmap_Valid.f k a0 a1 a2) (bitmap_Valid.f (k + 1) a0 a1 a2) := by
 intro a0 a1 a2 k
 obtain ⟨ih0, ih1⟩ := bitmap_Valid.mono_l k
 unfold bitmap_Valid.f
 repeat' first
   | (with_reducible exact ih0 _ _ _ _)
   | (with_reducible exact ih1 _ _ _)
   | (with_reducible first | exact LeO.refl _ | exact LeO.none _ | refine LeO.ite ?_ ?_ | refine LeO.bind ?_ (fun _ => ?_))
   | exact ih0 _ _ _ _
   | exact ih1 _ _ _
   | exact LeO.none _ | refine LeO.ite ?_ ?_ | refine LeO.bind ?_ (fun _ => ?_)
set_option maxHeartbeats 8000000 in
set_option maxRecDepth 100000 in
theorem bitmap_Valid.calls (k : Nat) (a0_0 : Int) (a0_1 : Int) (A0_2 : Option Addr) (c0_2 : Nat) (l0_2 : List Int) (r : Bool) (w : World) (hr0_2 : Kd.C (Kd.int .u8) w A0_2 l0_2.length l0_2) (hc0_2 : l0_2.length ≤ c0_2) (h : bitmap_Valid.f k a0_0 a0_1 l0_2 = some r) :
  Calls Tryd.prog 47 #[.agg #[.int .i64 a0_0, .int .i64 a0_1, .slice A0_2 l0_2.length c0_2]] w fun e w' => e = .returned (.bool r) ∧ Below w.heap.size w w' := by
 have hu48 := Tryd.underlying48
 have HR0_2 := Aside0.mk hr0_2
 have HC0_2 := Aside0.mk hc0_2
 clear hr0_2 hc0_2
 have HB := Aside0.mk (Below.refl w.heap.size w)
 have H : ((bitmap_fits.f a0_0 a0_1).bind fun t278 => (if t278 = true then (bitmap_Valid.j0 k ((l0_2.length : Int) != (wrap64 (a0_0 * a0_1))) a0_0 a0_1 l0_2) else (bitmap_Valid.j0 k true a0_0 a0_1 l0_2))) = some r := h
 clear h
 have HC2 := Aside0.mk H
 clear H
 go_enter Tryd.func47, Tryd.ntmps47
 go_upto_region 1 with (first | ((with_reducible refine gd 1 rfl ?_); (try (refine gate_guard (by rfl) ?_; dsimp only)); refine bx 1 #[.int .i64 a0_0, .int .i64 a0_1, .slice A0_2 l0_2.length c0_2] 48 rfl rfl ?_; intro gb277 hg w3 hbox hb; have n_ := aC (bs hb) (aC hbox (aC (gz hg) (aE (gz hg)))); clear HB; obtain ⟨HB, BK277, GW277, GE277⟩ := n_; clear hb hbox hg))
 (try simp only [Act.put, List.setIfInBounds_toArray, List.set_cons_zero, List.set_cons_succ])
 go_cut [21] (fun v21 wc => ∃ (kq : Nat) (x21_1 : Bool), v21 = .bool x21_1 ∧ Aside0 (bitmap_Valid.j0 kq x21_1 a0_0 a0_1 l0_2 = some r) ∧ Aside0 (kq ≤ k) ∧ Aside0 (wc.heap[gb277]? = some (.cells #[.int .i64 a0_0, .int .i64 a0_1, (.slice A0_2 l0_2.length c0_2)] 48 (0, 0))) ∧ Aside0 (Below w.heap.size w wc))
 case first =>
  have H := HC2.out
  clear HC2
  replace H := Option.bind_eq_some_iff.mp H
  obtain ⟨t278, A40, H⟩ := H
  replace H : (if t278 = true then (bitmap_Valid.j0 k ((l0_2.length : Int) != (wrap64 (a0_0 * a0_1))) a0_0 a0_1 l0_2) else (bitmap_Valid.j0 k true a0_0 a0_1 l0_2)) = some r := H
  have A4 := Aside0.mk A40
  clear A40
  by_cases c5 : t278 = true
  ·subst c5
   have H1 : (bitmap_Valid.j0 k ((l0_2.length : Int) != (wrap64 (a0_0 * a0_1))) a0_0 a0_1 l0_2) = some r := by rw [if_pos rfl] at H; exact H
   clear H
   have H := H1
   clear H1
   have H' := Aside0.mk H
   clear H
   obtain ⟨hcz6_0, hcz6_1, hcz6_2, hfz6_0, hfz6_1, hfz6_2⟩ := cz3f BK277.out
   go_wp2_with (first | ((with_reducible refine gf 75 rfl ?_); refine gL (some 9) rfl rfl Tryd.func75 rfl #[.int .i64 a0_0, .int .i64 a0_1] rfl ?_; (with_reducible refine (bitmap_fits.calls a0_0 a0_1 true _ A4.out).mono ?_); rintro e w' ⟨rfl, ⟨nd, rfl⟩⟩; refine ⟨_, rfl, ?_⟩))
   go_meet
   case rel => exact ⟨_, (((l0_2.length : Int) != (wrap64 (a0_0 * a0_1)))), rq, H', ⟨by first | omega | exact Nat.le_refl _⟩, ⟨bU BK277.out⟩, ⟨bl⟩⟩
  ·replace c5 := Bool.eq_false_iff.mpr c5
   subst c5
   have H1 : (bitmap_Valid.j0 k true a0_0 a0_1 l0_2) = some r := by rw [if_neg (show ¬ (false = true) by decide)] at H; exact H
   clear H
   have H := H1
   clear H1
   have H' := Aside0.mk H
   clear H
   obtain ⟨hcz7_0, hcz7_1, hcz7_2, hfz7_0, hfz7_1, hfz7_2⟩ := cz3f BK277.out
   go_wp2_with (first | ((with_reducible refine gf 75 rfl ?_); refine gL (some 9) rfl rfl Tryd.func75 rfl #[.int .i64 a0_0, .int .i64 a0_1] rfl ?_; (with_reducible refine (bitmap_fits.calls a0_0 a0_1 false _ A4.out).mono ?_); rintro e w' ⟨rfl, ⟨nd, rfl⟩⟩; refine ⟨_, rfl, ?_⟩))
   go_meet
   case rel => exact ⟨_, (true), rq, H', ⟨by first | omega | exact Nat.le_refl _⟩, ⟨bU BK277.out⟩, ⟨bl⟩⟩
 case rest =>
  clear HC2
  obtain ⟨kq, x21_1, rfl, HA, HJ1, BK277, HB⟩ := hcut
  cases kq with
  | zero => exact absurd HA.out (by simp [bitmap_Valid.j0])
  | succ kj1 =>
   have H := HA.out
   clear HA
   simp only [bitmap_Valid.j0] at H
   by_cases c8 : x21_1 = true
   ·subst c8
    have H1 : (some false) = some r := by rw [if_pos rfl] at H; exact H
    clear H
    have H := H1
    clear H1
    obtain rfl := Option.some.inj H
    go_wp2
    go_ret
    exact ⟨re, bl⟩
   ·replace c8 := Bool.eq_false_iff.mpr c8
    subst c8
    have H1 : (bitmap_Valid.l0 kj1 l0_2 (l0_2.length : Int) 0) = some r := by rw [if_neg (show ¬ (false = true) by decide)] at H; exact H
    clear H
    have H := H1
    clear H1
    have H' := Aside0.mk H
    clear H
    obtain ⟨hcz9_0, hcz9_1, hcz9_2, hfz9_0, hfz9_1, hfz9_2⟩ := cz3f BK277.out
    go_wp2
    go_loopg [25] kj1 (fun kq v25 w' => ∃ (x25_2 : Int), v25 = .int .i64 x25_2 ∧ Aside0 (bitmap_Valid.l0 kq l0_2 (l0_2.length : Int) x25_2 = some r) ∧ Aside0 (kq ≤ kj1) ∧ Aside0 (w'.heap[gb277]? = some (.cells #[.int .i64 a0_0, .int .i64 a0_1, (.slice A0_2 l0_2.length c0_2)] 48 (0, 0))) ∧ Aside0 (Below w.heap.size w w'))
    case atStart => exact ⟨(0), rq, H', ⟨Nat.le_refl _⟩, ⟨bU BK277.out⟩, ⟨bl⟩⟩
    case round =>
     clear H'
     obtain ⟨x25_2, rfl, HA, HK2, BK277, HB⟩ := hrel
     cases gk with
     | zero => exact absurd HA.out (by simp [bitmap_Valid.l0])
     | succ k2 =>
      have H := HA.out
      clear HA
      simp only [bitmap_Valid.l0] at H
      by_cases c10 : x25_2 < (l0_2.length : Int)
      ·rw [if_pos c10] at H
       have c10b0 := decide_eq_true c10
       clear c10
       by_cases c11 : 0 ≤ x25_2
       ·rw [if_pos c11] at H
        have c11b0 := decide_eq_true c11
        clear c11
        by_cases c12 : x25_2 < (l0_2.length : Int)
        ·rw [if_pos c12] at H
         have c12b0 := decide_eq_true c12
         clear c12
         by_cases c13 : (rd l0_2 x25_2) > 1
         ·rw [if_pos c13] at H
          have c13b0 := decide_eq_true c13
          clear c13
          obtain rfl := Option.some.inj H
          have p279 : 0 ≤ (x25_2 : Int) := dt
          have q279 : x25_2 < (l0_2.length : Int) := dt
          obtain ⟨ad279, e279, hx279_0⟩ := Kd.at_int HR0_2.out x25_2 p279 q279
          cases e279
          replace hx279_0 := hcB HB.out hx279_0
          replace p279 := eq_true p279
          replace q279 := eq_true q279
          go_wp2
          go_ret
          exact ⟨re, bl⟩
         ·rw [if_neg c13] at H
          have c13b0 := decide_eq_false c13
          clear c13
          have H' := Aside0.mk H
          clear H
          have p279 : 0 ≤ (x25_2 : Int) := dt
          have q279 : x25_2 < (l0_2.length : Int) := dt
          obtain ⟨ad279, e279, hx279_0⟩ := Kd.at_int HR0_2.out x25_2 p279 q279
          cases e279
          replace hx279_0 := hcB HB.out hx279_0
          replace p279 := eq_true p279
          replace q279 := eq_true q279
          go_wp2
          go_roundg k2
          case measure => have := HJ1.out; have := HK2.out; omega
          case rel => exact ⟨(wrap64 (x25_2 + 1)), rq, H', ⟨by have := HJ1.out; have := HK2.out; omega⟩, ⟨bU BK277.out⟩, ⟨bl⟩⟩
        ·rw [if_neg c12] at H
         exact absurd H (by simp)
       ·rw [if_neg c11] at H
        exact absurd H (by simp)
      ·rw [if_neg c10] at H
       have c10b0 := decide_eq_false c10
       clear c10
       obtain rfl := Option.some.inj H
       go_wp2
       go_ret
       exact ⟨re, bl⟩

/-! ### runs_lines: function 48 -/
def runs_lines.l0 : Nat → List (List Int) → Int → Int → Int → Int → List Int → Option ((List (List Int)))
 | 0, _, _, _, _, _, _ => none
 | k + 1, x3, x6, x7, x281000, x281001, x281002 => if x7 < x6 then (if 0 ≤ (wrap64 (x7 * x281000)) then (if (wrap64 (x7 * x281000)) ≤ (wrap64 ((wrap64 (x7 + 1)) * x281000)) then (if (wrap64 ((wrap64 (x7 + 1)) * x281000)) ≤ (x281002.length : Int) then (if x3.length < 5864062014805 then (runs_lines.l0 k (x3 ++ [((x281002.take ((wrap64 ((wrap64 (x7 + 1)) * x281000)) : Int).toNat).drop ((wrap64 (x7 * x281000)) : Int).toNat)]) x6 (wrap64 (x7 + 1)) x281000 x281001 x281002) else (none)) else (none)) else (none)) else (none)) else (some x3)
def runs_lines.f (k : Nat) (a0_0 : Int) (a0_1 : Int) (l0_2 : List Int) : Option ((List (List Int))) := runs_lines.l0 k ([] : List (List Int)) a0_1 0 a0_0 a0_1 l0_2
theorem runs_lines.mono_l : ∀ k, (∀ y0 y1 y2 y3 y4 y5, LeO (runs_lines.l0 k y0 y1 y2 y3 y4 y5) (runs_lines.l0 (k + 1) y0 y1 y2 y3 y4 y5))
 | 0 => fun _ _ _ _ _ _ r h => by simp [runs_lines.l0] at h
 | k + 1 => by
  have ih0 := runs_lines.mono_l k
  ·intro y0 y1 y2 y3 y4 y5
   unfold runs_lines.l0
   repeat' first
   | (with_reducible exact ih0 _ _ _ _ _ _)
   | (with_reducible first | exact LeO.refl _ | exact LeO.none _ | refine LeO.ite ?_ ?_ | refine LeO.bind ?_ (fun _ => ?_))
   | exact ih0 _ _ _ _ _ _
   | exact LeO.none _ | refine LeO.ite ?_ ?_ | refine LeO.bind ?_ (fun _ => ?_)
theorem runs_lines.mono : ∀ a0 a1 a2 k, LeO (runs_lines.f k a0 a1 a2) (runs_lines.f (k + 1) a0 a1 a2) := by
 intro a0 a1 a2 k
 have ih0 := runs_lines.mono_l k
 unfold runs_lines.f
 repeat' first
   | (with_reducible exact ih0 _ _ _ _ _ _)
   | (with_reducible first | exact LeO.refl _ | exact LeO.none _ | refine LeO.ite ?_ ?_ | refine LeO.bind ?_ (fun _ => ?_))
   | exact ih0 _ _ _ _ _ _
   | exact LeO.none _ | refine LeO.ite ?_ ?_ | refine LeO.bind ?_ (fun _ => ?_)
set_option maxHeartbeats 8000000 in
set_option maxRecDepth 100000 in
theorem runs_lines.calls (k : Nat) (a0_0 : Int) (a0_1 : Int) (P0_2_ : Nat → Prop) (A0_2 : Option Addr) (c0_2 : Nat) (l0_2 : List Int) (r : List (List Int)) (w : World) (hs0_2 : Kd.V (Kd.int .u8) 5 w w.heap.size (fun k_ => P0_2_ k_) (.slice A0_2 l0_2.length c0_2) l0_2) (h : runs_lines.f k a0_0 a0_1 l0_2 = some r) :
  Calls Tryd.prog 48 #[.agg #[.int .i64 a0_0, .int .i64 a0_1, .slice A0_2 l0_2.length c0_2]] w fun e w' => ∃ v0_ : Value, e = .returned (v0_) ∧ Kd.N (Kd.slice 5 (Kd.int .u8)) 22 w' w.heap.size (fun k_ => (P0_2_ k_ ∨ w.heap.size ≤ k_)) v0_ r ∧ Below w.heap.size w w' := by
 have hu48 := Tryd.underlying48
 have HO0_2 := Aside0.mk (show Kd.V (Kd.int .u8) 5 w w.heap.size (fun k_ => (P0_2_ k_ ∨ w.heap.size ≤ k_)) (.slice A0_2 l0_2.length c0_2) l0_2 from Kd.V_mono hs0_2 (fun k_ hk => .inl hk))
 have HB := Aside0.mk (Below.refl w.heap.size w)
 have H : (runs_lines.l0 k ([] : List (List Int)) a0_1 0 a0_0 a0_1 l0_2) = some r := h
 clear h
 have H' := Aside0.mk H
 clear H
 go_enter Tryd.func48, Tryd.ntmps48
 go_wp2_with (first | ((with_reducible refine gd 1 rfl ?_); refine bx 1 #[.int .i64 a0_0, .int .i64 a0_1, .slice A0_2 l0_2.length c0_2] 48 rfl rfl ?_; intro gb280 hg w2 hbox hb; have n_ := aC (Kd.V_below (Kd.V_elderB (by (with_reducible repeat (first | apply Kd.V_alloc | apply Kd.V_drewN | apply Kd.V_drew)); exact HO0_2.out) gb280 (Nat.le_of_eq hg.symm)) hb) (aC (bs hb) (aC hbox (aC (gz hg) (aE (gz hg))))); clear HO0_2 HB; obtain ⟨HO0_2, HB, BK280, GW280, GE280⟩ := n_; clear hb hbox hg; obtain ⟨hcz3_0, hcz3_1, hcz3_2, hfz3_0, hfz3_1, hfz3_2⟩ := cz3f BK280.out))
 go_loopg [3, 7] k (fun kq v3 v7 w' => ∃ (x3_1 : List (List Int)) (x7_1 : Int), v7 = .int .i64 x7_1 ∧ Aside0 (runs_lines.l0 kq x3_1 a0_1 x7_1 a0_0 a0_1 l0_2 = some r) ∧ Aside0 (kq ≤ k) ∧ Aside0 (Kd.N (Kd.slice 5 (Kd.int .u8)) 22 w' w.heap.size (fun k_ => (P0_2_ k_ ∨ w.heap.size ≤ k_) ∧ k_ ≠ gb280) v3 x3_1) ∧ Aside0 (Kd.V (Kd.int .u8) 5 w' w.heap.size (fun k_ => (P0_2_ k_ ∨ w.heap.size ≤ k_) ∧ some k_ ≠ (v3 : Value).ownBlock ∧ k_ ≠ gb280) (.slice A0_2 l0_2.length c0_2) l0_2) ∧ Aside0 (w'.heap[gb280]? = some (.cells #[.int .i64 a0_0, .int .i64 a0_1, (.slice A0_2 l0_2.length c0_2)] 48 (0, 0))) ∧ Aside0 (Below w.heap.size w w'))
 case atStart => exact ⟨(([] : List (List Int))), (0), rq, H', ⟨Nat.le_refl _⟩, ⟨by first | exact Kd.S_nil _ _ _ _ _ | exact Kd.N_nil _ _ _ _ _ | exact Kd.V_nil _ _ _ _ _ | exact Kd.Q_nil _ _ _ _ _ | exact Kd.R_nil _ _ _ _ _⟩, ⟨by (with_reducible repeat (first | apply Kd.V_alloc | apply Kd.V_drewN | apply Kd.V_drew)); exact Kd.V_mono HO0_2.out (fun _ hk => ⟨hk.1, ⟨(by simp [Value.ownBlock]), hk.2⟩⟩)⟩, ⟨bU BK280.out⟩, ⟨bl⟩⟩
 case round =>
  clear H'
  obtain ⟨x3_1, x7_1, rfl, HA, HK1, HO_3, HO_281002, BK280, HB⟩ := hrel
  cases gk with
  | zero => exact absurd HA.out (by simp [runs_lines.l0])
  | succ k1 =>
   have H := HA.out
   clear HA
   simp only [runs_lines.l0] at H
   by_cases c4 : x7_1 < a0_1
   ·rw [if_pos c4] at H
    have c4b0 := decide_eq_true c4
    clear c4
    obtain ⟨ji5, hji5⟩ : ∃ j_ : Int, (wrap64 (x7_1 * a0_0)) = j_ := ⟨_, rfl⟩
    replace H : (if 0 ≤ (ji5) then (if (ji5) ≤ (wrap64 ((wrap64 (x7_1 + 1)) * a0_0)) then (if (wrap64 ((wrap64 (x7_1 + 1)) * a0_0)) ≤ (l0_2.length : Int) then (if x3_1.length < 5864062014805 then (runs_lines.l0 k1 (x3_1 ++ [((l0_2.take ((wrap64 ((wrap64 (x7_1 + 1)) * a0_0)) : Int).toNat).drop ((ji5) : Int).toNat)]) a0_1 (wrap64 (x7_1 + 1)) a0_0 a0_1 l0_2) else (none)) else (none)) else (none)) else (none)) = some r := by first | (rw [hji5] at H; exact H) | (simp only [hji5] at H ⊢; exact H)
    have hji5w : (IntKind.i64.wrap (x7_1 * a0_0)) = ji5 := (i64_w _).trans hji5
    by_cases c6 : 0 ≤ (ji5)
    ·rw [if_pos c6] at H
     have c6b0 := eq_true c6
     have c6b1 := decide_eq_true c6
     clear c6
     by_cases c7 : (ji5) ≤ (wrap64 ((wrap64 (x7_1 + 1)) * a0_0))
     ·rw [if_pos c7] at H
      have c7b0 := eq_true c7
      have c7b1 := decide_eq_true c7
      by_cases c8 : (wrap64 ((wrap64 (x7_1 + 1)) * a0_0)) ≤ (l0_2.length : Int)
      ·rw [if_pos c8] at H
       have c8b0 := eq_true c8
       have c8b1 := decide_eq_true c8
       obtain ⟨y281, hy_⟩ : ∃ y_ : List Int, y_ = ((l0_2.take ((wrap64 ((wrap64 (x7_1 + 1)) * a0_0)) : Int).toNat).drop ((ji5) : Int).toNat) := ⟨_, rfl⟩
       replace H : (if x3_1.length < 5864062014805 then (runs_lines.l0 k1 (x3_1 ++ [y281]) a0_1 (wrap64 (x7_1 + 1)) a0_0 a0_1 l0_2) else (none)) = some r := rh
       have Ny281 := aE hy_
       clear hy_
       by_cases c9 : x3_1.length < 5864062014805
       ·rw [if_pos c9] at H
        have LMc9 := Aside0.mk c9
        clear c9
        obtain ⟨y286, hy_⟩ : ∃ y_ : List (List Int), y_ = (x3_1 ++ [y281]) := ⟨_, rfl⟩
        replace H : (runs_lines.l0 k1 y286 a0_1 (wrap64 (x7_1 + 1)) a0_0 a0_1 l0_2) = some r := rh
        have Ny286 := aE hy_
        clear hy_
        have H' := Aside0.mk H
        clear H
        obtain ⟨hcz10_0, hcz10_1, hcz10_2, hfz10_0, hfz10_1, hfz10_2⟩ := cz3f BK280.out
        have q11 : ((wrap64 ((wrap64 (x7_1 + 1)) * a0_0)) : Int) ≤ ((l0_2.length : Int) : Int) := dt
        obtain ⟨i011, hi011, _, hsz11, _⟩ := info_parts info5
        have hroom11 : l0_2.length ≤ c0_2 := (Kd.V_reads' HO_281002.out).2.1
        have hC11 : Kd.F (Kd.int .u8) _ _ A0_2 l0_2.length l0_2 := (Kd.V_at (base := w.heap.size) HO_281002.out).2.2
        have ql11 : ((ji5) : Int) ≤ ((wrap64 ((wrap64 (x7_1 + 1)) * a0_0)) : Int) := dt
        have q011 : (0 : Int) ≤ ((ji5) : Int) := dt
        have hcut11 := cut_mid (P := Tryd.prog) 22 5 .i64 .i64 Tryd.underlying22 hi011 1 hsz11 A0_2 l0_2.length c0_2 (ji5) (wrap64 ((wrap64 (x7_1 + 1)) * a0_0)) q011 ql11 q11 hroom11
        have hr11 := Kd.F_mid (lo := ((ji5) : Int).toNat) (hi := ((wrap64 ((wrap64 (x7_1 + 1)) * a0_0)) : Int).toNat) (c := c0_2) hC11 (by omega) (by omega) hroom11
        obtain ⟨A11, hA11⟩ : ∃ A1, A1 = (if c0_2 = ((ji5) : Int).toNat then A0_2 else (A0_2 : Option Addr).map (·.add (((ji5) : Int).toNat * 1))) := ⟨_, rfl⟩
        obtain ⟨c11, hc11⟩ : ∃ c1, c1 = c0_2 - ((ji5) : Int).toNat := ⟨_, rfl⟩
        have hy11 : y281.length = ((wrap64 ((wrap64 (x7_1 + 1)) * a0_0)) : Int).toNat - ((ji5) : Int).toNat := (by rw [Ny281.out, List.length_drop, List.length_take] <;> omega)
        rw [show ((l0_2).take ((wrap64 ((wrap64 (x7_1 + 1)) * a0_0)) : Int).toNat).drop ((ji5) : Int).toNat = y281 from Ny281.out.symm] at hr11
        replace hr11 : Kd.F (Kd.int .u8) _ _ A11 y281.length y281 := (by rw [hA11]; exact hr11)
        rw [← hy11, ← hA11, ← hc11] at hcut11
        have HO285 := Aside0.mk (show Kd.V (Kd.int .u8) 5 _ w.heap.size _ (.slice A11 y281.length c11) y281 from Kd.V_mk (by rw [hy11, hc11]; exact Nat.sub_le_sub_right (Nat.le_trans (by omega) hroom11) _) hr11)
        have HC285 := Aside0.mk (show y281.length ≤ c11 from by rw [hy11, hc11]; exact Nat.sub_le_sub_right (Nat.le_trans (by omega) hroom11) _)
        clear hr11 hC11 hroom11 hi011 hsz11 hc11
        have KY11 := Aside0.mk hy11
        have KA11 := Aside0.mk hA11
        clear hy11 hA11
        replace q11 := eq_true q11
        go_wp2_with (first | ((with_reducible refine gate_builtin (b := .append) (xs := #[.tmp 10, .tmp 23]) rfl ?_); at_builtin; refine Kd.N_append (Kd.slice 5 (Kd.int .u8)) (w0 := w) w.heap.size rfl (.tmp 10) (.tmp 23) 73 22 (.slice none 0 0) 24 rfl Tryd.underlying73 info22 rfl (by decide) (by omega) u3 x3_1 y281 [.slice A11 y281.length c11] (fun k_ => (P0_2_ k_ ∨ w.heap.size ≤ k_) ∧ k_ ≠ gb280) (fun k_ => ((fun k_ => (P0_2_ k_ ∨ w.heap.size ≤ k_) ∧ k_ ≠ gb280)) k_ ∧ some k_ ≠ (u3 : Value).ownBlock) rfl rfl ?aP (fun _ hk => hk) ?aF ?aO ?aB ?aS ?aL ?_; (case aP => exact (Kd.FK_slice_mk (Kd.V_reads' (Kd.V_mono (ok' := (fun k_ => ((fun k_ => (P0_2_ k_ ∨ w.heap.size ≤ k_) ∧ k_ ≠ gb280)) k_ ∧ some k_ ≠ (u3 : Value).ownBlock)) (HO285.out) (fun k_ hk => ⟨⟨hk.1, hk.2.2⟩, hk.2.1⟩))).2.1 (Kd.V_F (Kd.V_mono (ok' := (fun k_ => ((fun k_ => (P0_2_ k_ ∨ w.heap.size ≤ k_) ∧ k_ ≠ gb280)) k_ ∧ some k_ ≠ (u3 : Value).ownBlock)) (HO285.out) (fun k_ hk => ⟨⟨hk.1, hk.2.2⟩, hk.2.1⟩))))); (case aB => exact bl); (case aF => exact (fun k_ hk => ⟨(.inr (Nat.le_trans bz hk)), Kd.freshB (bU BK280.out) k_ hk⟩)); (case aO => exact (by (with_reducible repeat (first | apply Kd.N_alloc | apply Kd.N_drewN | apply Kd.N_drew)); exact HO_3.out)); (case aS => exact bz); (case aL => have := LMc9.out; omega); intro v287 w12 ho hb hg hat; rw [← Ny286.out] at ho; have n_ := aC (Kd.V_afterv (ok := (fun k_ => (P0_2_ k_ ∨ w.heap.size ≤ k_) ∧ k_ ≠ gb280)) (by (with_reducible repeat (first | apply Kd.V_alloc | apply Kd.V_drewN | apply Kd.V_drew)); exact Kd.V_mono HO_281002.out (fun _ hk => ⟨⟨hk.1, hk.2.2⟩, hk.2.1⟩)) hg hat) (aC (blk_grown (bU BK280.out) hg (Kd.N_ne HO_3.out BK280.out (by decide))) (aC (Kd.V_afterv (ok := (fun k_ => (P0_2_ k_ ∨ w.heap.size ≤ k_) ∧ k_ ≠ gb280)) (by (with_reducible repeat (first | apply Kd.V_alloc | apply Kd.V_drewN | apply Kd.V_drew)); exact Kd.V_mono HO285.out (fun _ hk => ⟨⟨hk.1, hk.2.2⟩, hk.2.1⟩)) hg hat) (aC hb (aE ho)))); clear HO_281002 BK280 HO285 HB HO_3; obtain ⟨HO_281002, BK280, HO285, HB, HO288⟩ := n_; clear ho hb hg hat))
        go_roundg k1
        case measure => have := HK1.out; omega
        case rel => exact ⟨(y286), (wrap64 (x7_1 + 1)), rq, H', ⟨by have := HK1.out; omega⟩, ⟨by (with_reducible repeat (first | apply Kd.N_alloc | apply Kd.N_drewN | apply Kd.N_drew)); exact HO288.out⟩, ⟨by (with_reducible repeat (first | apply Kd.V_alloc | apply Kd.V_drewN | apply Kd.V_drew)); exact Kd.V_mono HO_281002.out (fun _ hk => ⟨hk.1.1, ⟨hk.2, hk.1.2⟩⟩)⟩, ⟨bU BK280.out⟩, ⟨bl⟩⟩
       ·rw [if_neg c9] at H
        exact absurd H (by simp)
      ·rw [if_neg c8] at H
       exact absurd H (by simp)
     ·rw [if_neg c7] at H
      exact absurd H (by simp)
    ·rw [if_neg c6] at H
     exact absurd H (by simp)
   ·rw [if_neg c4] at H
    have c4b0 := decide_eq_false c4
    clear c4
    obtain rfl := Option.some.inj H
    go_wp2
    go_ret
    exact ⟨_, re, by (with_reducible repeat (first | apply Kd.N_alloc | apply Kd.N_drewN | apply Kd.N_drew)); exact Kd.N_mono HO_3.out (fun _ hk => hk.1), bl⟩

end Go.Proofs.YtknclbodinfbeaaDoor.PRunsAgain
