-- Written by a program of this session (wip/tools/myprint.py) over the kit's print. Not trusted: Lean checks it.
import Derived.Test.YtknclbodinfbeaaDoorPRunsCodesx0
import Derived.Test.YtknclbodinfbeaaDoorPRunsCodesx14
namespace Go.Proofs.YtknclbodinfbeaaDoor.PRunsCodes
open Go.RowKit Go.Proofs.YtknclbodinfbeaaDoorW.PrintWords Go.Proofs.YtknclbodinfbeaaDoorW.PrintLast Go.Proofs.YtknclbodinfbeaaDoorW.PrintMore
attribute [local go_sem] max2_int min2_int max_two min_two max_three min_three max_four min_four   -- for this text's walks alone
set_option linter.unusedVariables false
set_option linter.unusedSimpArgs false

/-! ### incunableref06_first: function 70 -/
def incunableref06_first.l0 : Nat → List Int → Int → Int → Option (Int)
 | 0, _, _, _ => none
 | k + 1, x0, x2, x7 => if x7 < (x0.length : Int) then ((incunableref06_at.f x0 x7).bind fun t493 => (if t493 = x2 then (some x7) else (incunableref06_first.l0 k x0 x2 (wrap64 (x7 + 1))))) else (some (x0.length : Int))
def incunableref06_first.f (k : Nat) (l0 : List Int) (a1 : Int) (a2 : Int) : Option (Int) := incunableref06_first.l0 k l0 a2 (wrap64 (a1 + 1))
theorem incunableref06_first.mono_l : ∀ k, (∀ y0 y1 y2, LeO (incunableref06_first.l0 k y0 y1 y2) (incunableref06_first.l0 (k + 1) y0 y1 y2))
 | 0 => fun _ _ _ r h => by simp [incunableref06_first.l0] at h
 | k + 1 => by
  have ih0 := incunableref06_first.mono_l k
  ·intro y0 y1 y2
   unfold incunableref06_first.l0
   repeat' first
   | (with_reducible exact ih0 _ _ _)
   | (with_reducible first | exact LeO.refl _ | exact LeO.none _ | refine LeO.ite ?_ ?_ | refine LeO.bind ?_ (fun _ => ?_))
   | exact ih0 _ _ _
   | exact LeO.none _ | refine LeO.ite ?_ ?_ | refine LeO.bind ?_ (fun _ => ?_)
theorem incunableref06_first.mono : ∀ a0 a1 a2 k, LeO (incunableref06_first.f k a0 a1 a2) (incunableref06_first.f (k + 1) a0 a1 a2) := by
 intro a0 a1 a2 k
 have ih0 := incunableref06_first.mono_l k
 unfold incunableref06_first.f
 repeat' first
   | (with_reducible exact ih0 _ _ _)
   | (with_reducible first | exact LeO.refl _ | exact LeO.none _ | refine LeO.ite ?_ ?_ | refine LeO.bind ?_ (fun _ => ?_))
   | exact ih0 _ _ _
   | exact LeO.none _ | refine LeO.ite ?_ ?_ | refine LeO.bind ?_ (fun _ => ?_)
set_option maxHeartbeats 8000000 in
set_option maxRecDepth 100000 in
theorem incunableref06_first.calls (k : Nat) (A0 : Option Addr) (c0 : Nat) (l0 : List Int) (a1 : Int) (a2 : Int) (r : Int) (w : World) (hr0 : Kd.C (Kd.int .u8) w A0 l0.length l0) (hc0 : l0.length ≤ c0) (h : incunableref06_first.f k l0 a1 a2 = some r) :
  Calls Tryd.prog 70 #[.slice A0 l0.length c0, .int .i64 a1, .int .i64 a2] w fun e w' => e = .returned (.int .i64 r) ∧ Drawn0 w w' := by
 have HR0 := Aside0.mk hr0
 have HC0 := Aside0.mk hc0
 clear hr0 hc0
 have H : (incunableref06_first.l0 k l0 a2 (wrap64 (a1 + 1))) = some r := h
 clear h
 have H' := Aside0.mk H
 clear H
 go_enter Tryd.func70, Tryd.ntmps70
 go_wp2
 go_loopg [7] k (fun kq v7 w' => ∃ (x7_1 : Int), v7 = .int .i64 x7_1 ∧ Aside0 (incunableref06_first.l0 kq l0 a2 x7_1 = some r) ∧ Aside0 (kq ≤ k) ∧ Drawn0 w w')
 case atStart => exact ⟨(wrap64 (a1 + 1)), rq, H', ⟨Nat.le_refl _⟩, by repeat (first | exact Drawn0.refl _ | apply Drawn0.step)⟩
 case round =>
  clear H'
  obtain ⟨x7_1, rfl, HA, HK1, ⟨m1, rfl⟩⟩ := hrel
  cases gk with
  | zero => exact absurd HA.out (by simp [incunableref06_first.l0])
  | succ k1 =>
   have H := HA.out
   clear HA
   simp only [incunableref06_first.l0] at H
   by_cases c4 : x7_1 < (l0.length : Int)
   ·rw [if_pos c4] at H
    have c4b0 := decide_eq_true c4
    clear c4
    replace H := Option.bind_eq_some_iff.mp H
    obtain ⟨t493, A50, H⟩ := H
    replace H : (if t493 = a2 then (some x7_1) else (incunableref06_first.l0 k1 l0 a2 (wrap64 (x7_1 + 1)))) = some r := H
    have A5 := Aside0.mk A50
    clear A50
    by_cases c6 : t493 = a2
    ·rw [if_pos c6] at H
     have c6b0 := beq_iff_eq.mpr c6
     have c6b1 := bne_eq_false_iff_eq.mpr c6
     clear c6
     obtain rfl := Option.some.inj H
     go_wp2_with (first | ((with_reducible refine gf 91 rfl ?_); refine gL (some 18) rfl rfl Tryd.func91 rfl #[.slice A0 l0.length c0, .int .i64 x7_1] rfl ?_; (with_reducible refine (incunableref06_at.calls _ _ l0 x7_1 t493 _ ?side1 ?side2 A5.out).mono ?_); (case side1 => exact cU HR0.out); (case side2 => exact HC0.out); rintro e w' ⟨rfl, ⟨nd, rfl⟩⟩; refine ⟨_, rfl, ?_⟩))
     go_ret
     exact ⟨by first | rfl | (simp; done) | (simp [*]; done), by repeat (first | exact Drawn0.refl _ | apply Drawn0.step)⟩
    ·rw [if_neg c6] at H
     have c6b0 := beq_eq_false_iff_ne.mpr c6
     have c6b1 := bne_iff_ne.mpr c6
     have H' := Aside0.mk H
     clear H
     go_wp2_with (first | ((with_reducible refine gf 91 rfl ?_); refine gL (some 18) rfl rfl Tryd.func91 rfl #[.slice A0 l0.length c0, .int .i64 x7_1] rfl ?_; (with_reducible refine (incunableref06_at.calls _ _ l0 x7_1 t493 _ ?side1 ?side2 A5.out).mono ?_); (case side1 => exact cU HR0.out); (case side2 => exact HC0.out); rintro e w' ⟨rfl, ⟨nd, rfl⟩⟩; refine ⟨_, rfl, ?_⟩))
     go_roundg k1
     case measure => have := HK1.out; omega
     case rel => exact ⟨(wrap64 (x7_1 + 1)), rq, H', ⟨by have := HK1.out; omega⟩, by repeat (first | exact Drawn0.refl _ | apply Drawn0.step)⟩
   ·rw [if_neg c4] at H
    have c4b0 := decide_eq_false c4
    clear c4
    obtain rfl := Option.some.inj H
    go_wp2
    go_ret
    exact ⟨by first | rfl | (simp; done) | (simp [*]; done), by repeat (first | exact Drawn0.refl _ | apply Drawn0.step)⟩

/-! ### incunableref06_bitsOf: function 71 -/
def incunableref06_bitsOf.l0 : Nat → ByteArray → List Int → Int → Option (List Int)
 | 0, _, _, _ => none
 | k + 1, x0, x3, x4 => if x4 < (x0.size : Int) then (if 0 ≤ x4 then (if x3.length < 140737488355328 then (incunableref06_bitsOf.l0 k x0 (x3 ++ [((bt x0 x4) - 48) % 256]) (wrap64 (x4 + 1))) else (none)) else (none)) else (some x3)
def incunableref06_bitsOf.f (k : Nat) (a0 : ByteArray) : Option (List Int) := incunableref06_bitsOf.l0 k a0 ([] : List Int) 0
theorem incunableref06_bitsOf.mono_l : ∀ k, (∀ y0 y1 y2, LeO (incunableref06_bitsOf.l0 k y0 y1 y2) (incunableref06_bitsOf.l0 (k + 1) y0 y1 y2))
 | 0 => fun _ _ _ r h => by simp [incunableref06_bitsOf.l0] at h
 | k + 1 => by
  have ih0 := incunableref06_bitsOf.mono_l k
  ·intro y0 y1 y2
   unfold incunableref06_bitsOf.l0
   repeat' first
   | (with_reducible exact ih0 _ _ _)
   | (with_reducible first | exact LeO.refl _ | exact LeO.none _ | refine LeO.ite ?_ ?_ | refine LeO.bind ?_ (fun _ => ?_))
   | exact ih0 _ _ _
   | exact LeO.none _ | refine LeO.ite ?_ ?_ | refine LeO.bind ?_ (fun _ => ?_)
theorem incunableref06_bitsOf.mono : ∀ a0 k, LeO (incunableref06_bitsOf.f k a0) (incunableref06_bitsOf.f (k + 1) a0) := by
 intro a0 k
 have ih0 := incunableref06_bitsOf.mono_l k
 unfold incunableref06_bitsOf.f
 repeat' first
   | (with_reducible exact ih0 _ _ _)
   | (with_reducible first | exact LeO.refl _ | exact LeO.none _ | refine LeO.ite ?_ ?_ | refine LeO.bind ?_ (fun _ => ?_))
   | exact ih0 _ _ _
   | exact LeO.none _ | refine LeO.ite ?_ ?_ | refine LeO.bind ?_ (fun _ => ?_)
set_option maxHeartbeats 8000000 in
set_option maxRecDepth 100000 in
theorem incunableref06_bitsOf.calls (k : Nat) (a0 : ByteArray) (r : List Int) (w : World) (h : incunableref06_bitsOf.f k a0 = some r) :
  Calls Tryd.prog 71 #[.string a0] w fun e w' => ∃ v0_ : Value, e = .returned (v0_) ∧ Kd.R (Kd.int .u8) 5 w' w.heap.size (fun _ => True) v0_ r ∧ Below w.heap.size w w' := by
 have HB := Aside0.mk (Below.refl w.heap.size w)
 have H : (incunableref06_bitsOf.l0 k a0 ([] : List Int) 0) = some r := h
 clear h
 have H' := Aside0.mk H
 clear H
 go_enter Tryd.func71, Tryd.ntmps71
 go_wp2
 go_loopg [3, 4] k (fun kq v3 v4 w' => ∃ (x3_1 : List Int) (x4_1 : Int), v4 = .int .i64 x4_1 ∧ Aside0 (incunableref06_bitsOf.l0 kq a0 x3_1 x4_1 = some r) ∧ Aside0 (kq ≤ k) ∧ Aside0 (Kd.R (Kd.int .u8) 5 w' w.heap.size (fun _ => True) v3 x3_1) ∧ Aside0 (Below w.heap.size w w'))
 case atStart => exact ⟨(([] : List Int)), (0), rq, H', ⟨Nat.le_refl _⟩, ⟨by first | exact Kd.R_nil _ _ _ _ _ | exact Kd.N_nil _ _ _ _ _ | exact Kd.V_nil _ _ _ _ _ | exact Kd.Q_nil _ _ _ _ _ | exact Kd.S_nil _ _ _ _ _⟩, ⟨bl⟩⟩
 case round =>
  clear H'
  obtain ⟨x3_1, x4_1, rfl, HA, HK1, HO_3, HB⟩ := hrel
  cases gk with
  | zero => exact absurd HA.out (by simp [incunableref06_bitsOf.l0])
  | succ k1 =>
   have H := HA.out
   clear HA
   simp only [incunableref06_bitsOf.l0] at H
   by_cases c2 : x4_1 < (a0.size : Int)
   ·rw [if_pos c2] at H
    have c2b0 := decide_eq_true c2
    clear c2
    by_cases c3 : 0 ≤ x4_1
    ·rw [if_pos c3] at H
     have c3b0 := decide_eq_true c3
     clear c3
     by_cases c5 : x3_1.length < 140737488355328
     ·rw [if_pos c5] at H
      have LMc5 := Aside0.mk c5
      clear c5
      obtain ⟨y494, hy_⟩ : ∃ y_ : List Int, y_ = (x3_1 ++ [((bt a0 x4_1) - 48) % 256]) := ⟨_, rfl⟩
      replace H : (incunableref06_bitsOf.l0 k1 a0 y494 (wrap64 (x4_1 + 1))) = some r := rh
      have Ny494 := aE hy_
      clear hy_
      have H' := Aside0.mk H
      clear H
      have p4 : 0 ≤ (x4_1 : Int) := dt
      have q4 : x4_1 < (a0.size : Int) := dt
      have hx4 := bt_at a0 x4_1
      replace p4 := eq_true p4
      replace q4 := eq_true q4
      go_wp2_with (first | ((with_reducible refine gate_builtin (b := .append) (xs := #[.tmp 11, .tmp 16]) rfl ?_); at_builtin; refine Kd.R_append (Kd.int .u8) (w0 := w) w.heap.size rfl (.tmp 11) (.tmp 16) 22 5 (.int .u8 0) 1 rfl Tryd.underlying22 info5 rfl (by decide) (by omega) u3 x3_1 (((bt a0 x4_1) - 48) % 256) [.int .u8 (((bt a0 x4_1) - 48) % 256)] (fun _ => True) (fun _ => False) rfl rfl ?aP (fun _ hk => hk.elim) ?aF ?aO ?aB ?aS ?aL ?_; (case aP => exact rfl); (case aB => exact bl); (case aF => exact (fun _ _ => trivial)); (case aO => exact (rU HO_3.out)); (case aS => exact bz); (case aL => have := LMc5.out; omega); intro v495 w6 ho hb hg hat; rw [← Ny494.out] at ho; have n_ := aC hb (aE ho); clear HB HO_3; obtain ⟨HB, HO496⟩ := n_; clear ho hb hg hat))
      go_roundg k1
      case measure => have := HK1.out; omega
      case rel => exact ⟨(y494), (wrap64 (x4_1 + 1)), rq, H', ⟨by have := HK1.out; omega⟩, ⟨rU HO496.out⟩, ⟨bl⟩⟩
     ·rw [if_neg c5] at H
      exact absurd H (by simp)
    ·rw [if_neg c3] at H
     exact absurd H (by simp)
   ·rw [if_neg c2] at H
    have c2b0 := decide_eq_false c2
    clear c2
    obtain rfl := Option.some.inj H
    go_wp2
    go_ret
    exact ⟨_, re, rU HO_3.out, bl⟩

/-! ### incunableref06_name: function 72 -/
def incunableref06_name.f (a0 : Int) : Option (ByteArray) := if a0 = (-3) then (some (⟨#[117, 112, 45, 51]⟩ : ByteArray)) else (if a0 = (-2) then (some (⟨#[117, 112, 45, 50]⟩ : ByteArray)) else (if a0 = (-1) then (some (⟨#[117, 112, 45, 49]⟩ : ByteArray)) else (if a0 = 0 then (some (⟨#[117, 112, 48]⟩ : ByteArray)) else (if a0 = 1 then (some (⟨#[117, 112, 49]⟩ : ByteArray)) else (if a0 = 2 then (some (⟨#[117, 112, 50]⟩ : ByteArray)) else (some (⟨#[117, 112, 51]⟩ : ByteArray)))))))
set_option maxHeartbeats 8000000 in
set_option maxRecDepth 100000 in
theorem incunableref06_name.calls (a0 : Int) (r : ByteArray) (w : World) (h : incunableref06_name.f a0 = some r) :
  Calls Tryd.prog 72 #[.int .i64 a0] w fun e w' => e = .returned (.string r) ∧ Drawn0 w w' := by
 have H : (if a0 = (-3) then (some (⟨#[117, 112, 45, 51]⟩ : ByteArray)) else (if a0 = (-2) then (some (⟨#[117, 112, 45, 50]⟩ : ByteArray)) else (if a0 = (-1) then (some (⟨#[117, 112, 45, 49]⟩ : ByteArray)) else (if a0 = 0 then (some (⟨#[117, 112, 48]⟩ : ByteArray)) else (if a0 = 1 then (some (⟨#[117, 112, 49]⟩ : ByteArray)) else (if a0 = 2 then (some (⟨#[117, 112, 50]⟩ : ByteArray)) else (some (⟨#[117, 112, 51]⟩ : ByteArray)))))))) = some r := h
 clear h
 by_cases c2 : a0 = (-3)
 ·rw [if_pos c2] at H
  have c2b0 := beq_iff_eq.mpr c2
  have c2b1 := bne_eq_false_iff_eq.mpr c2
  clear c2
  obtain rfl := Option.some.inj H
  go_enter Tryd.func72, Tryd.ntmps72
  go_wp2
  go_ret
  exact ⟨by first | rfl | (simp; done) | (simp [*]; done), by repeat (first | exact Drawn0.refl _ | apply Drawn0.step)⟩
 ·rw [if_neg c2] at H
  have c2b0 := beq_eq_false_iff_ne.mpr c2
  have c2b1 := bne_iff_ne.mpr c2
  by_cases c3 : a0 = (-2)
  ·rw [if_pos c3] at H
   have c3b0 := beq_iff_eq.mpr c3
   have c3b1 := bne_eq_false_iff_eq.mpr c3
   clear c3
   obtain rfl := Option.some.inj H
   go_enter Tryd.func72, Tryd.ntmps72
   go_wp2
   go_ret
   exact ⟨by first | rfl | (simp; done) | (simp [*]; done), by repeat (first | exact Drawn0.refl _ | apply Drawn0.step)⟩
  ·rw [if_neg c3] at H
   have c3b0 := beq_eq_false_iff_ne.mpr c3
   have c3b1 := bne_iff_ne.mpr c3
   by_cases c4 : a0 = (-1)
   ·rw [if_pos c4] at H
    have c4b0 := beq_iff_eq.mpr c4
    have c4b1 := bne_eq_false_iff_eq.mpr c4
    clear c4
    obtain rfl := Option.some.inj H
    go_enter Tryd.func72, Tryd.ntmps72
    go_wp2
    go_ret
    exact ⟨by first | rfl | (simp; done) | (simp [*]; done), by repeat (first | exact Drawn0.refl _ | apply Drawn0.step)⟩
   ·rw [if_neg c4] at H
    have c4b0 := beq_eq_false_iff_ne.mpr c4
    have c4b1 := bne_iff_ne.mpr c4
    by_cases c5 : a0 = 0
    ·rw [if_pos c5] at H
     have c5b0 := beq_iff_eq.mpr c5
     have c5b1 := bne_eq_false_iff_eq.mpr c5
     clear c5
     obtain rfl := Option.some.inj H
     go_enter Tryd.func72, Tryd.ntmps72
     go_wp2
     go_ret
     exact ⟨by first | rfl | (simp; done) | (simp [*]; done), by repeat (first | exact Drawn0.refl _ | apply Drawn0.step)⟩
    ·rw [if_neg c5] at H
     have c5b0 := beq_eq_false_iff_ne.mpr c5
     have c5b1 := bne_iff_ne.mpr c5
     by_cases c6 : a0 = 1
     ·rw [if_pos c6] at H
      have c6b0 := beq_iff_eq.mpr c6
      have c6b1 := bne_eq_false_iff_eq.mpr c6
      clear c6
      obtain rfl := Option.some.inj H
      go_enter Tryd.func72, Tryd.ntmps72
      go_wp2
      go_ret
      exact ⟨by first | rfl | (simp; done) | (simp [*]; done), by repeat (first | exact Drawn0.refl _ | apply Drawn0.step)⟩
     ·rw [if_neg c6] at H
      have c6b0 := beq_eq_false_iff_ne.mpr c6
      have c6b1 := bne_iff_ne.mpr c6
      by_cases c7 : a0 = 2
      ·rw [if_pos c7] at H
       have c7b0 := beq_iff_eq.mpr c7
       have c7b1 := bne_eq_false_iff_eq.mpr c7
       clear c7
       obtain rfl := Option.some.inj H
       go_enter Tryd.func72, Tryd.ntmps72
       go_wp2
       go_ret
       exact ⟨by first | rfl | (simp; done) | (simp [*]; done), by repeat (first | exact Drawn0.refl _ | apply Drawn0.step)⟩
      ·rw [if_neg c7] at H
       have c7b0 := beq_eq_false_iff_ne.mpr c7
       have c7b1 := bne_iff_ne.mpr c7
       obtain rfl := Option.some.inj H
       go_enter Tryd.func72, Tryd.ntmps72
       go_wp2
       go_ret
       exact ⟨by first | rfl | (simp; done) | (simp [*]; done), by repeat (first | exact Drawn0.refl _ | apply Drawn0.step)⟩

/-! ### incunableref06_upright: function 73 -/
def incunableref06_upright.f (a0 : Int) : Option (ByteArray) := if a0 = 0 then (some (⟨#[49]⟩ : ByteArray)) else (if a0 = 1 then (some (⟨#[48, 49, 49]⟩ : ByteArray)) else (if a0 = 2 then (some (⟨#[48, 48, 48, 48, 49, 49]⟩ : ByteArray)) else (if a0 = 3 then (some (⟨#[48, 48, 48, 48, 48, 49, 49]⟩ : ByteArray)) else (if a0 = (-1) then (some (⟨#[48, 49, 48]⟩ : ByteArray)) else (if a0 = (-2) then (some (⟨#[48, 48, 48, 48, 49, 48]⟩ : ByteArray)) else (some (⟨#[48, 48, 48, 48, 48, 49, 48]⟩ : ByteArray)))))))
set_option maxHeartbeats 8000000 in
set_option maxRecDepth 100000 in
theorem incunableref06_upright.calls (a0 : Int) (r : ByteArray) (w : World) (h : incunableref06_upright.f a0 = some r) :
  Calls Tryd.prog 73 #[.int .i64 a0] w fun e w' => e = .returned (.string r) ∧ Drawn0 w w' := by
 have H : (if a0 = 0 then (some (⟨#[49]⟩ : ByteArray)) else (if a0 = 1 then (some (⟨#[48, 49, 49]⟩ : ByteArray)) else (if a0 = 2 then (some (⟨#[48, 48, 48, 48, 49, 49]⟩ : ByteArray)) else (if a0 = 3 then (some (⟨#[48, 48, 48, 48, 48, 49, 49]⟩ : ByteArray)) else (if a0 = (-1) then (some (⟨#[48, 49, 48]⟩ : ByteArray)) else (if a0 = (-2) then (some (⟨#[48, 48, 48, 48, 49, 48]⟩ : ByteArray)) else (some (⟨#[48, 48, 48, 48, 48, 49, 48]⟩ : ByteArray)))))))) = some r := h
 clear h
 by_cases c2 : a0 = 0
 ·rw [if_pos c2] at H
  have c2b0 := beq_iff_eq.mpr c2
  have c2b1 := bne_eq_false_iff_eq.mpr c2
  clear c2
  obtain rfl := Option.some.inj H
  go_enter Tryd.func73, Tryd.ntmps73
  go_wp2
  go_ret
  exact ⟨by first | rfl | (simp; done) | (simp [*]; done), by repeat (first | exact Drawn0.refl _ | apply Drawn0.step)⟩
 ·rw [if_neg c2] at H
  have c2b0 := beq_eq_false_iff_ne.mpr c2
  have c2b1 := bne_iff_ne.mpr c2
  by_cases c3 : a0 = 1
  ·rw [if_pos c3] at H
   have c3b0 := beq_iff_eq.mpr c3
   have c3b1 := bne_eq_false_iff_eq.mpr c3
   clear c3
   obtain rfl := Option.some.inj H
   go_enter Tryd.func73, Tryd.ntmps73
   go_wp2
   go_ret
   exact ⟨by first | rfl | (simp; done) | (simp [*]; done), by repeat (first | exact Drawn0.refl _ | apply Drawn0.step)⟩
  ·rw [if_neg c3] at H
   have c3b0 := beq_eq_false_iff_ne.mpr c3
   have c3b1 := bne_iff_ne.mpr c3
   by_cases c4 : a0 = 2
   ·rw [if_pos c4] at H
    have c4b0 := beq_iff_eq.mpr c4
    have c4b1 := bne_eq_false_iff_eq.mpr c4
    clear c4
    obtain rfl := Option.some.inj H
    go_enter Tryd.func73, Tryd.ntmps73
    go_wp2
    go_ret
    exact ⟨by first | rfl | (simp; done) | (simp [*]; done), by repeat (first | exact Drawn0.refl _ | apply Drawn0.step)⟩
   ·rw [if_neg c4] at H
    have c4b0 := beq_eq_false_iff_ne.mpr c4
    have c4b1 := bne_iff_ne.mpr c4
    by_cases c5 : a0 = 3
    ·rw [if_pos c5] at H
     have c5b0 := beq_iff_eq.mpr c5
     have c5b1 := bne_eq_false_iff_eq.mpr c5
     clear c5
     obtain rfl := Option.some.inj H
     go_enter Tryd.func73, Tryd.ntmps73
     go_wp2
     go_ret
     exact ⟨by first | rfl | (simp; done) | (simp [*]; done), by repeat (first | exact Drawn0.refl _ | apply Drawn0.step)⟩
    ·rw [if_neg c5] at H
     have c5b0 := beq_eq_false_iff_ne.mpr c5
     have c5b1 := bne_iff_ne.mpr c5
     by_cases c6 : a0 = (-1)
     ·rw [if_pos c6] at H
      have c6b0 := beq_iff_eq.mpr c6
      have c6b1 := bne_eq_false_iff_eq.mpr c6
      clear c6
      obtain rfl := Option.some.inj H
      go_enter Tryd.func73, Tryd.ntmps73
      go_wp2
      go_ret
      exact ⟨by first | rfl | (simp; done) | (simp [*]; done), by repeat (first | exact Drawn0.refl _ | apply Drawn0.step)⟩
     ·rw [if_neg c6] at H
      have c6b0 := beq_eq_false_iff_ne.mpr c6
      have c6b1 := bne_iff_ne.mpr c6
      by_cases c7 : a0 = (-2)
      ·rw [if_pos c7] at H
       have c7b0 := beq_iff_eq.mpr c7
       have c7b1 := bne_eq_false_iff_eq.mpr c7
       clear c7
       obtain rfl := Option.some.inj H
       go_enter Tryd.func73, Tryd.ntmps73
       go_wp2
       go_ret
       exact ⟨by first | rfl | (simp; done) | (simp [*]; done), by repeat (first | exact Drawn0.refl _ | apply Drawn0.step)⟩
      ·rw [if_neg c7] at H
       have c7b0 := beq_eq_false_iff_ne.mpr c7
       have c7b1 := bne_iff_ne.mpr c7
       obtain rfl := Option.some.inj H
       go_enter Tryd.func73, Tryd.ntmps73
       go_wp2
       go_ret
       exact ⟨by first | rfl | (simp; done) | (simp [*]; done), by repeat (first | exact Drawn0.refl _ | apply Drawn0.step)⟩

/-! ### incunableref06_Choice: function 44 -/
def incunableref06_Choice.j0 : Nat → List Int → Int → Int → Int → Int → Bool → Option (ByteArray × List Int × Int × Int)
 | 0, _, _, _, _, _, _ => none
 | k + 1, x1, x2, x3, x11, x12, x43 => if x43 = true then ((incunableref06_name.f x12).bind fun t504 => ((incunableref06_upright.f x12).bind fun t505 => ((incunableref06_bitsOf.f k t505).bind fun t506 => (some (t504, t506, x11, wrap64 (1 - x3)))))) else ((incunableref06_first.f k x1 x11 x3).bind fun t509 => ((incunableref06_bitsOf.f k (⟨#[48, 48, 49]⟩ : ByteArray)).bind fun t510 => ((incunableref06_RunBits.f k (wrap64 (x11 - (mx x2 0))) x3).bind fun t513 => (if t510.length + t513.length < 140737488355328 then ((some (t510 ++ t513 : List Int)).bind fun y516 => ((incunableref06_RunBits.f k (wrap64 (t509 - x11)) (wrap64 (1 - x3))).bind fun t519 => (if y516.length + t519.length < 140737488355328 then (some ((⟨#[102, 108, 97, 116]⟩ : ByteArray), (y516 ++ t519), t509, x3)) else (none)))) else (none)))))
def incunableref06_Choice.f (k : Nat) (l0 : List Int) (l1 : List Int) (a2 : Int) (a3 : Int) : Option (ByteArray × List Int × Int × Int) := (incunableref06_change.f k l0 a2 a3).bind fun t498 => ((incunableref06_first.f k l0 t498 a3).bind fun t499 => ((incunableref06_first.f k l1 a2 (wrap64 (1 - a3))).bind fun t500 => (if t499 < t500 then ((incunableref06_bitsOf.f k (⟨#[48, 48, 48, 49]⟩ : ByteArray)).bind fun t501 => (some ((⟨#[112, 97, 115, 115]⟩ : ByteArray), t501, t499, a3))) else (if (wrap64 (t500 - t498)) ≥ (-3) then (incunableref06_Choice.j0 k l1 a2 a3 t500 (wrap64 (t500 - t498)) (decide ((wrap64 (t500 - t498)) ≤ 3))) else (incunableref06_Choice.j0 k l1 a2 a3 t500 (wrap64 (t500 - t498)) false)))))
theorem incunableref06_Choice.mono_l : ∀ k, (∀ y0 y1 y2 y3 y4 y5, LeO (incunableref06_Choice.j0 k y0 y1 y2 y3 y4 y5) (incunableref06_Choice.j0 (k + 1) y0 y1 y2 y3 y4 y5))
 | 0 => fun _ _ _ _ _ _ r h => by simp [incunableref06_Choice.j0] at h
 | k + 1 => by
  have ih0 := incunableref06_Choice.mono_l k
  ·intro y0 y1 y2 y3 y4 y5
   unfold incunableref06_Choice.j0
   repeat' first
   | (with_reducible exact ih0 _ _ _ _ _ _)
   | (with_reducible exact incunableref06_RunBits.mono _ _ _)
   | (with_reducible exact incunableref06_bitsOf.mono _ _)
   | (with_reducible exact incunableref06_change.mono _ _ _ _)
   | (with_reducible exact incunableref06_first.mono _ _ _ _)
   | (with_reducible first | exact LeO.refl _ | exact LeO.none _ | refine LeO.ite ?_ ?_ | refine LeO.bind ?_ (fun _ => ?_))
   | exact ih0 _ _ _ _ _ _
   | exact incunableref06_RunBits.mono _ _ _
   | exact incunableref06_bitsOf.mono _ _
   | exact incunableref06_change.mono _ _ _ _
   | exact incunableref06_first.mono _ _ _ _
   | exact LeO.none _ | refine LeO.ite ?_ ?_ | refine LeO.bind ?_ (fun _ => ?_)
theorem incunableref06_Choice.mono : ∀ a0 a1 a2 a3 k, LeO (incunableref06_Choice.f k a0 a1 a2 a3) (incunableref06_Choice.f (k + 1) a0 a1 a2 a3) := by
 intro a0 a1 a2 a3 k
 have ih0 := incunableref06_Choice.mono_l k
 unfold incunableref06_Choice.f
 repeat' first
   | (with_reducible exact ih0 _ _ _ _ _ _)
   | (with_reducible exact incunableref06_RunBits.mono _ _ _)
   | (with_reducible exact incunableref06_bitsOf.mono _ _)
   | (with_reducible exact incunableref06_change.mono _ _ _ _)
   | (with_reducible exact incunableref06_first.mono _ _ _ _)
   | (with_reducible first | exact LeO.refl _ | exact LeO.none _ | refine LeO.ite ?_ ?_ | refine LeO.bind ?_ (fun _ => ?_))
   | exact ih0 _ _ _ _ _ _
   | exact incunableref06_RunBits.mono _ _ _
   | exact incunableref06_bitsOf.mono _ _
   | exact incunableref06_change.mono _ _ _ _
   | exact incunableref06_first.mono _ _ _ _
   | exact LeO.none _ | refine LeO.ite ?_ ?_ | refine LeO.bind ?_ (fun _ => ?_)
set_option maxHeartbeats 8000000 in
set_option maxRecDepth 100000 in
theorem incunableref06_Choice.calls (k : Nat) (A0 : Option Addr) (c0 : Nat) (l0 : List Int) (A1 : Option Addr) (c1 : Nat) (l1 : List Int) (a2 : Int) (a3 : Int) (r1 : ByteArray) (r2 : List Int) (r3 : Int) (r4 : Int) (w : World) (hr0 : Kd.C (Kd.int .u8) w A0 l0.length l0) (hc0 : l0.length ≤ c0) (hr1 : Kd.C (Kd.int .u8) w A1 l1.length l1) (hc1 : l1.length ≤ c1) (h : incunableref06_Choice.f k l0 l1 a2 a3 = some (r1, r2, r3, r4)) :
  Calls Tryd.prog 44 #[.slice A0 l0.length c0, .slice A1 l1.length c1, .int .i64 a2, .int .i64 a3] w fun e w' => ∃ v1_ : Value, e = .returned (.agg #[.string r1, v1_, .int .i64 r3, .int .i64 r4]) ∧ Kd.R (Kd.int .u8) 5 w' w.heap.size (fun _ => True) v1_ r2 ∧ Below w.heap.size w w' := by
 have hu37 := Tryd.underlying37
 have HR0 := Aside0.mk hr0
 have HC0 := Aside0.mk hc0
 clear hr0 hc0
 have HR1 := Aside0.mk hr1
 have HC1 := Aside0.mk hc1
 clear hr1 hc1
 have HB := Aside0.mk (Below.refl w.heap.size w)
 have H : ((incunableref06_change.f k l0 a2 a3).bind fun t498 => ((incunableref06_first.f k l0 t498 a3).bind fun t499 => ((incunableref06_first.f k l1 a2 (wrap64 (1 - a3))).bind fun t500 => (if t499 < t500 then ((incunableref06_bitsOf.f k (⟨#[48, 48, 48, 49]⟩ : ByteArray)).bind fun t501 => (some ((⟨#[112, 97, 115, 115]⟩ : ByteArray), t501, t499, a3))) else (if (wrap64 (t500 - t498)) ≥ (-3) then (incunableref06_Choice.j0 k l1 a2 a3 t500 (wrap64 (t500 - t498)) (decide ((wrap64 (t500 - t498)) ≤ 3))) else (incunableref06_Choice.j0 k l1 a2 a3 t500 (wrap64 (t500 - t498)) false)))))) = some (r1, r2, r3, r4) := h
 clear h
 replace H := Option.bind_eq_some_iff.mp H
 obtain ⟨t498, A50, H⟩ := H
 replace H : ((incunableref06_first.f k l0 t498 a3).bind fun t499 => ((incunableref06_first.f k l1 a2 (wrap64 (1 - a3))).bind fun t500 => (if t499 < t500 then ((incunableref06_bitsOf.f k (⟨#[48, 48, 48, 49]⟩ : ByteArray)).bind fun t501 => (some ((⟨#[112, 97, 115, 115]⟩ : ByteArray), t501, t499, a3))) else (if (wrap64 (t500 - t498)) ≥ (-3) then (incunableref06_Choice.j0 k l1 a2 a3 t500 (wrap64 (t500 - t498)) (decide ((wrap64 (t500 - t498)) ≤ 3))) else (incunableref06_Choice.j0 k l1 a2 a3 t500 (wrap64 (t500 - t498)) false))))) = some (r1, r2, r3, r4) := H
 have A5 := Aside0.mk A50
 clear A50
 replace H := Option.bind_eq_some_iff.mp H
 obtain ⟨t499, A60, H⟩ := H
 replace H : ((incunableref06_first.f k l1 a2 (wrap64 (1 - a3))).bind fun t500 => (if t499 < t500 then ((incunableref06_bitsOf.f k (⟨#[48, 48, 48, 49]⟩ : ByteArray)).bind fun t501 => (some ((⟨#[112, 97, 115, 115]⟩ : ByteArray), t501, t499, a3))) else (if (wrap64 (t500 - t498)) ≥ (-3) then (incunableref06_Choice.j0 k l1 a2 a3 t500 (wrap64 (t500 - t498)) (decide ((wrap64 (t500 - t498)) ≤ 3))) else (incunableref06_Choice.j0 k l1 a2 a3 t500 (wrap64 (t500 - t498)) false)))) = some (r1, r2, r3, r4) := H
 have A6 := Aside0.mk A60
 clear A60
 replace H := Option.bind_eq_some_iff.mp H
 obtain ⟨t500, A70, H⟩ := H
 replace H : (if t499 < t500 then ((incunableref06_bitsOf.f k (⟨#[48, 48, 48, 49]⟩ : ByteArray)).bind fun t501 => (some ((⟨#[112, 97, 115, 115]⟩ : ByteArray), t501, t499, a3))) else (if (wrap64 (t500 - t498)) ≥ (-3) then (incunableref06_Choice.j0 k l1 a2 a3 t500 (wrap64 (t500 - t498)) (decide ((wrap64 (t500 - t498)) ≤ 3))) else (incunableref06_Choice.j0 k l1 a2 a3 t500 (wrap64 (t500 - t498)) false))) = some (r1, r2, r3, r4) := H
 have A7 := Aside0.mk A70
 clear A70
 by_cases c8 : t499 < t500
 ·rw [if_pos c8] at H
  have c8b0 := decide_eq_true c8
  clear c8
  replace H := Option.bind_eq_some_iff.mp H
  obtain ⟨t501, A90, H⟩ := H
  replace H : (some ((⟨#[112, 97, 115, 115]⟩ : ByteArray), t501, t499, a3)) = some (r1, r2, r3, r4) := H
  have A9 := Aside0.mk A90
  clear A90
  simp only [Option.some.injEq, Prod.mk.injEq] at H
  obtain ⟨rfl, rfl, rfl, rfl⟩ := H
  go_enter Tryd.func44, Tryd.ntmps44
  go_wp2_with (first | ((with_reducible refine gd 8 rfl ?_); refine bx 8 #[.string (⟨#[]⟩ : ByteArray), .slice none 0 0, .int .i64 0, .int .i64 0] 37 rfl rfl ?_; intro gb497 hg w10 hbox hb; have n_ := aC (bs hb) (aC hbox (aC (gz hg) (aE (gz hg)))); clear HB; obtain ⟨HB, BK497, GW497, GE497⟩ := n_; clear hb hbox hg) | ((with_reducible refine gf 69 rfl ?_); refine gL (some 18) rfl rfl Tryd.func69 rfl #[.slice A0 l0.length c0, .int .i64 a2, .int .i64 a3] rfl ?_; (with_reducible refine (incunableref06_change.calls k _ _ l0 a2 a3 t498 _ ?side1 ?side2 A5.out).mono ?_); (case side1 => exact cU (Kd.C_below HR0.out HB.out)); (case side2 => exact HC0.out); rintro e w' ⟨rfl, ⟨nd, rfl⟩⟩; refine ⟨_, rfl, ?_⟩; (try (rw [drewN_self w10]; generalize hq_ : World.drewN w10 _ = w10; have n0_ : Aside0 (w10.heap[gb497]? = some (.cells #[.string (⟨#[]⟩ : ByteArray), .slice none 0 0, .int .i64 0, .int .i64 0] 37 (0, 0))) := ⟨by rw [← hq_]; exact (bU BK497.out)⟩; have n1_ : Aside0 (Below w.heap.size w w10) := ⟨by rw [← hq_]; exact bl⟩; clear BK497 HB hq_; have BK497 := n0_; have HB := n1_; clear n0_ n1_))) | ((with_reducible refine gf 70 rfl ?_); refine gL (some 22) rfl rfl Tryd.func70 rfl #[.slice A0 l0.length c0, .int .i64 t498, .int .i64 a3] rfl ?_; (with_reducible refine (incunableref06_first.calls k _ _ l0 t498 a3 t499 _ ?side1 ?side2 A6.out).mono ?_); (case side1 => exact cU (Kd.C_below HR0.out HB.out)); (case side2 => exact HC0.out); rintro e w' ⟨rfl, ⟨nd, rfl⟩⟩; refine ⟨_, rfl, ?_⟩; (try (rw [drewN_self w10]; generalize hq_ : World.drewN w10 _ = w10; have n0_ : Aside0 (w10.heap[gb497]? = some (.cells #[.string (⟨#[]⟩ : ByteArray), .slice none 0 0, .int .i64 0, .int .i64 0] 37 (0, 0))) := ⟨by rw [← hq_]; exact (bU BK497.out)⟩; have n1_ : Aside0 (Below w.heap.size w w10) := ⟨by rw [← hq_]; exact bl⟩; clear BK497 HB hq_; have BK497 := n0_; have HB := n1_; clear n0_ n1_))) | ((with_reducible refine gf 70 rfl ?_); refine gL (some 27) rfl rfl Tryd.func70 rfl #[.slice A1 l1.length c1, .int .i64 a2, .int .i64 (wrap64 (1 - a3))] rfl ?_; (with_reducible refine (incunableref06_first.calls k _ _ l1 a2 (wrap64 (1 - a3)) t500 _ ?side1 ?side2 A7.out).mono ?_); (case side1 => exact cU (Kd.C_below HR1.out HB.out)); (case side2 => exact HC1.out); rintro e w' ⟨rfl, ⟨nd, rfl⟩⟩; refine ⟨_, rfl, ?_⟩; (try (rw [drewN_self w10]; generalize hq_ : World.drewN w10 _ = w10; have n0_ : Aside0 (w10.heap[gb497]? = some (.cells #[.string (⟨#[]⟩ : ByteArray), .slice none 0 0, .int .i64 0, .int .i64 0] 37 (0, 0))) := ⟨by rw [← hq_]; exact (bU BK497.out)⟩; have n1_ : Aside0 (Below w.heap.size w w10) := ⟨by rw [← hq_]; exact bl⟩; clear BK497 HB hq_; have BK497 := n0_; have HB := n1_; clear n0_ n1_))) | ((with_reducible refine gf 71 rfl ?_); refine gL (some 31) rfl rfl Tryd.func71 rfl #[.string (⟨#[48, 48, 48, 49]⟩ : ByteArray)] rfl ?_; (with_reducible refine (incunableref06_bitsOf.calls k (⟨#[48, 48, 48, 49]⟩ : ByteArray) t501 _ A9.out).mono ?_); rintro e w11 ⟨v502, rfl, ho0, hb⟩; refine ⟨_, rfl, ?_⟩; have n_ := aC (Kd.R_lower ho0 bz) (aC (blk_below (bU BK497.out) hb) (aE (bs hb))); clear BK497 HB; obtain ⟨HO503, BK497, HB⟩ := n_; (try clear hb); (try clear ho0); obtain ⟨Ao12, co12, eo12⟩ := Kd.R_slice HO503.out; subst eo12; obtain ⟨hcz13_0, hcz13_1, hcz13_2, hcz13_3, hfz13_0, hfz13_1, hfz13_2, hfz13_3⟩ := cz4f BK497.out))
  refine bodyPost_ret (results_cell_row rfl _ _ gb497 37 #[.string (⟨#[112, 97, 115, 115]⟩ : ByteArray), .slice Ao12 t501.length co12, .int .i64 t499, .int .i64 a3] (0, 0) _ rfl (by (with_reducible repeat (first | refine blk_drewN ?_ _ | refine blk_drew ?_ | refine blk_alloc ?_ _)); refine blk_put (cs := #[.string (⟨#[112, 97, 115, 115]⟩ : ByteArray), .slice Ao12 t501.length co12, .int .i64 t499, .int .i64 0]) ?_ 3 _ rfl; (with_reducible repeat (first | refine blk_drewN ?_ _ | refine blk_drew ?_ | refine blk_alloc ?_ _)); refine blk_put (cs := #[.string (⟨#[112, 97, 115, 115]⟩ : ByteArray), .slice Ao12 t501.length co12, .int .i64 0, .int .i64 0]) ?_ 2 _ rfl; (with_reducible repeat (first | refine blk_drewN ?_ _ | refine blk_drew ?_ | refine blk_alloc ?_ _)); refine blk_put (cs := #[.string (⟨#[112, 97, 115, 115]⟩ : ByteArray), .slice none 0 0, .int .i64 0, .int .i64 0]) ?_ 1 _ rfl; (with_reducible repeat (first | refine blk_drewN ?_ _ | refine blk_drew ?_ | refine blk_alloc ?_ _)); refine blk_put (cs := #[.string (⟨#[]⟩ : ByteArray), .slice none 0 0, .int .i64 0, .int .i64 0]) ?_ 0 _ rfl; (with_reducible repeat (first | refine blk_drewN ?_ _ | refine blk_drew ?_ | refine blk_alloc ?_ _)); exact BK497.out) Tryd.underlying37 rfl (by kernel_rfl)) rfl ?_
  exact ⟨_, re, rU (Kd.R_mono (Kd.R_far (p := ⟨gb497, 3, none⟩) (Kd.R_far (p := ⟨gb497, 2, none⟩) (Kd.R_far (p := ⟨gb497, 1, none⟩) (Kd.R_far (p := ⟨gb497, 0, none⟩) (Kd.R_types HO503.out BK497.out (by decide)) (fun _ hk => hk.2) (.string (⟨#[112, 97, 115, 115]⟩ : ByteArray))) (fun _ hk => hk.2) (.slice Ao12 t501.length co12)) (fun _ hk => hk.2) (.int .i64 t499)) (fun _ hk => hk.2) (.int .i64 a3)) (fun _ hk => trivial)), bl⟩
 ·rw [if_neg c8] at H
  have c8b0 := decide_eq_false c8
  clear c8
  have HC14 := Aside0.mk H
  clear H
  go_enter Tryd.func44, Tryd.ntmps44
  go_upto_region 7 with (first | ((with_reducible refine gd 8 rfl ?_); refine bx 8 #[.string (⟨#[]⟩ : ByteArray), .slice none 0 0, .int .i64 0, .int .i64 0] 37 rfl rfl ?_; intro gb497 hg w15 hbox hb; have n_ := aC (bs hb) (aC hbox (aC (gz hg) (aE (gz hg)))); clear HB; obtain ⟨HB, BK497, GW497, GE497⟩ := n_; clear hb hbox hg) | ((with_reducible refine gf 69 rfl ?_); refine gL (some 18) rfl rfl Tryd.func69 rfl #[.slice A0 l0.length c0, .int .i64 a2, .int .i64 a3] rfl ?_; (with_reducible refine (incunableref06_change.calls k _ _ l0 a2 a3 t498 _ ?side1 ?side2 A5.out).mono ?_); (case side1 => exact cU (Kd.C_below HR0.out HB.out)); (case side2 => exact HC0.out); rintro e w' ⟨rfl, ⟨nd, rfl⟩⟩; refine ⟨_, rfl, ?_⟩) | ((with_reducible refine gf 70 rfl ?_); refine gL (some 22) rfl rfl Tryd.func70 rfl #[.slice A0 l0.length c0, .int .i64 t498, .int .i64 a3] rfl ?_; (with_reducible refine (incunableref06_first.calls k _ _ l0 t498 a3 t499 _ ?side1 ?side2 A6.out).mono ?_); (case side1 => exact cU (Kd.C_below HR0.out bl)); (case side2 => exact HC0.out); rintro e w' ⟨rfl, ⟨nd, rfl⟩⟩; refine ⟨_, rfl, ?_⟩) | ((with_reducible refine gf 70 rfl ?_); refine gL (some 27) rfl rfl Tryd.func70 rfl #[.slice A1 l1.length c1, .int .i64 a2, .int .i64 (wrap64 (1 - a3))] rfl ?_; (with_reducible refine (incunableref06_first.calls k _ _ l1 a2 (wrap64 (1 - a3)) t500 _ ?side1 ?side2 A7.out).mono ?_); (case side1 => exact cU (Kd.C_below HR1.out bl)); (case side2 => exact HC1.out); rintro e w' ⟨rfl, ⟨nd, rfl⟩⟩; refine ⟨_, rfl, ?_⟩))
  (try simp only [Act.put, List.setIfInBounds_toArray, List.set_cons_zero, List.set_cons_succ])
  go_cut [43] (fun v43 wc => ∃ (kq : Nat) (x43_13 : Bool), v43 = .bool x43_13 ∧ Aside0 (incunableref06_Choice.j0 kq l1 a2 a3 t500 (wrap64 (t500 - t498)) x43_13 = some (r1, r2, r3, r4)) ∧ Aside0 (kq ≤ k) ∧ Aside0 (wc.heap[gb497]? = some (.cells #[.string (⟨#[]⟩ : ByteArray), (.slice none 0 0), .int .i64 0, .int .i64 0] 37 (0, 0))) ∧ Aside0 (Below w.heap.size w wc))
  case first =>
   have H := HC14.out
   clear HC14
   by_cases c16 : (wrap64 (t500 - t498)) ≥ (-3)
   ·rw [if_pos c16] at H
    have c16b0 := decide_eq_true c16
    clear c16
    (first | rw [c16b0] | (simp only [i64_w, i32_w]; rw [c16b0]) | skip)
    have H' := Aside0.mk H
    clear H
    go_wp2
    go_meet
    case rel => exact ⟨_, (decide ((wrap64 (t500 - t498)) ≤ 3)), rq, H', ⟨by first | omega | exact Nat.le_refl _⟩, ⟨bU BK497.out⟩, ⟨bl⟩⟩
   ·rw [if_neg c16] at H
    have c16b0 := decide_eq_false c16
    clear c16
    (first | rw [c16b0] | (simp only [i64_w, i32_w]; rw [c16b0]) | skip)
    have H' := Aside0.mk H
    clear H
    go_wp2
    go_meet
    case rel => exact ⟨_, (false), rq, H', ⟨by first | omega | exact Nat.le_refl _⟩, ⟨bU BK497.out⟩, ⟨bl⟩⟩
  case rest =>
   clear HC14
   try clear c1
   obtain ⟨kq, x43_13, rfl, HA, HJ13, BK497, HB⟩ := hcut
   cases kq with
   | zero => exact absurd HA.out (by simp [incunableref06_Choice.j0])
   | succ kj13 =>
    have H := HA.out
    clear HA
    simp only [incunableref06_Choice.j0] at H
    by_cases c17 : x43_13 = true
    ·subst c17
     have H1 : ((incunableref06_name.f (wrap64 (t500 - t498))).bind fun t504 => ((incunableref06_upright.f (wrap64 (t500 - t498))).bind fun t505 => ((incunableref06_bitsOf.f kj13 t505).bind fun t506 => (some (t504, t506, t500, wrap64 (1 - a3)))))) = some (r1, r2, r3, r4) := by rw [if_pos rfl] at H; exact H
     clear H
     have H := H1
     clear H1
     replace H := Option.bind_eq_some_iff.mp H
     obtain ⟨t504, A180, H⟩ := H
     replace H : ((incunableref06_upright.f (wrap64 (t500 - t498))).bind fun t505 => ((incunableref06_bitsOf.f kj13 t505).bind fun t506 => (some (t504, t506, t500, wrap64 (1 - a3))))) = some (r1, r2, r3, r4) := H
     have A18 := Aside0.mk A180
     clear A180
     replace H := Option.bind_eq_some_iff.mp H
     obtain ⟨t505, A190, H⟩ := H
     replace H : ((incunableref06_bitsOf.f kj13 t505).bind fun t506 => (some (t504, t506, t500, wrap64 (1 - a3)))) = some (r1, r2, r3, r4) := H
     have A19 := Aside0.mk A190
     clear A190
     replace H := Option.bind_eq_some_iff.mp H
     obtain ⟨t506, A200, H⟩ := H
     replace H : (some (t504, t506, t500, wrap64 (1 - a3))) = some (r1, r2, r3, r4) := H
     have A20 := Aside0.mk A200
     clear A200
     simp only [Option.some.injEq, Prod.mk.injEq] at H
     obtain ⟨rfl, rfl, rfl, rfl⟩ := H
     go_wp2_with (first | ((with_reducible refine gf 72 rfl ?_); refine gL (some 45) rfl rfl Tryd.func72 rfl #[.int .i64 (wrap64 (t500 - t498))] rfl ?_; (with_reducible refine (incunableref06_name.calls (wrap64 (t500 - t498)) t504 _ A18.out).mono ?_); rintro e w' ⟨rfl, ⟨nd, rfl⟩⟩; refine ⟨_, rfl, ?_⟩; (try (rw [drewN_self wc]; generalize hq_ : World.drewN wc _ = wc; have n0_ : Aside0 (wc.heap[gb497]? = some (.cells #[.string (⟨#[]⟩ : ByteArray), .slice none 0 0, .int .i64 0, .int .i64 0] 37 (0, 0))) := ⟨by rw [← hq_]; exact (bU BK497.out)⟩; have n1_ : Aside0 (Below w.heap.size w wc) := ⟨by rw [← hq_]; exact bl⟩; clear BK497 HB hq_; have BK497 := n0_; have HB := n1_; clear n0_ n1_))) | ((with_reducible refine gf 73 rfl ?_); refine gL (some 47) rfl rfl Tryd.func73 rfl #[.int .i64 (wrap64 (t500 - t498))] rfl ?_; (with_reducible refine (incunableref06_upright.calls (wrap64 (t500 - t498)) t505 _ A19.out).mono ?_); rintro e w' ⟨rfl, ⟨nd, rfl⟩⟩; refine ⟨_, rfl, ?_⟩; (try (rw [drewN_self wc]; generalize hq_ : World.drewN wc _ = wc; have n0_ : Aside0 (wc.heap[gb497]? = some (.cells #[.string (⟨#[]⟩ : ByteArray), .slice none 0 0, .int .i64 0, .int .i64 0] 37 (0, 0))) := ⟨by rw [← hq_]; exact (bU BK497.out)⟩; have n1_ : Aside0 (Below w.heap.size w wc) := ⟨by rw [← hq_]; exact bl⟩; clear BK497 HB hq_; have BK497 := n0_; have HB := n1_; clear n0_ n1_))) | ((with_reducible refine gf 71 rfl ?_); refine gL (some 48) rfl rfl Tryd.func71 rfl #[.string t505] rfl ?_; (with_reducible refine (incunableref06_bitsOf.calls kj13 t505 t506 _ A20.out).mono ?_); rintro e w21 ⟨v507, rfl, ho0, hb⟩; refine ⟨_, rfl, ?_⟩; have n_ := aC (Kd.R_lower ho0 bz) (aC (blk_below (bU BK497.out) hb) (aE (bs hb))); clear BK497 HB; obtain ⟨HO508, BK497, HB⟩ := n_; (try clear hb); (try clear ho0); obtain ⟨Ao22, co22, eo22⟩ := Kd.R_slice HO508.out; subst eo22; obtain ⟨hcz23_0, hcz23_1, hcz23_2, hcz23_3, hfz23_0, hfz23_1, hfz23_2, hfz23_3⟩ := cz4f BK497.out))
     refine bodyPost_ret (results_cell_row rfl _ _ gb497 37 #[.string t504, .slice Ao22 t506.length co22, .int .i64 t500, .int .i64 (wrap64 (1 - a3))] (0, 0) _ rfl (by (with_reducible repeat (first | refine blk_drewN ?_ _ | refine blk_drew ?_ | refine blk_alloc ?_ _)); refine blk_put (cs := #[.string t504, .slice Ao22 t506.length co22, .int .i64 t500, .int .i64 0]) ?_ 3 _ rfl; (with_reducible repeat (first | refine blk_drewN ?_ _ | refine blk_drew ?_ | refine blk_alloc ?_ _)); refine blk_put (cs := #[.string t504, .slice Ao22 t506.length co22, .int .i64 0, .int .i64 0]) ?_ 2 _ rfl; (with_reducible repeat (first | refine blk_drewN ?_ _ | refine blk_drew ?_ | refine blk_alloc ?_ _)); refine blk_put (cs := #[.string t504, .slice none 0 0, .int .i64 0, .int .i64 0]) ?_ 1 _ rfl; (with_reducible repeat (first | refine blk_drewN ?_ _ | refine blk_drew ?_ | refine blk_alloc ?_ _)); refine blk_put (cs := #[.string (⟨#[]⟩ : ByteArray), .slice none 0 0, .int .i64 0, .int .i64 0]) ?_ 0 _ rfl; (with_reducible repeat (first | refine blk_drewN ?_ _ | refine blk_drew ?_ | refine blk_alloc ?_ _)); exact BK497.out) Tryd.underlying37 rfl (by kernel_rfl)) rfl ?_
     exact ⟨_, re, rU (Kd.R_mono (Kd.R_far (p := ⟨gb497, 3, none⟩) (Kd.R_far (p := ⟨gb497, 2, none⟩) (Kd.R_far (p := ⟨gb497, 1, none⟩) (Kd.R_far (p := ⟨gb497, 0, none⟩) (Kd.R_types HO508.out BK497.out (by decide)) (fun _ hk => hk.2) (.string t504)) (fun _ hk => hk.2) (.slice Ao22 t506.length co22)) (fun _ hk => hk.2) (.int .i64 t500)) (fun _ hk => hk.2) (.int .i64 (wrap64 (1 - a3)))) (fun _ hk => trivial)), bl⟩
    ·replace c17 := Bool.eq_false_iff.mpr c17
     subst c17
     have H1 : ((incunableref06_first.f kj13 l1 t500 a3).bind fun t509 => ((incunableref06_bitsOf.f kj13 (⟨#[48, 48, 49]⟩ : ByteArray)).bind fun t510 => ((incunableref06_RunBits.f kj13 (wrap64 (t500 - (mx a2 0))) a3).bind fun t513 => (if t510.length + t513.length < 140737488355328 then ((some (t510 ++ t513 : List Int)).bind fun y516 => ((incunableref06_RunBits.f kj13 (wrap64 (t509 - t500)) (wrap64 (1 - a3))).bind fun t519 => (if y516.length + t519.length < 140737488355328 then (some ((⟨#[102, 108, 97, 116]⟩ : ByteArray), (y516 ++ t519), t509, a3)) else (none)))) else (none))))) = some (r1, r2, r3, r4) := by rw [if_neg (show ¬ (false = true) by decide)] at H; exact H
     clear H
     have H := H1
     clear H1
     replace H := Option.bind_eq_some_iff.mp H
     obtain ⟨t509, A240, H⟩ := H
     replace H : ((incunableref06_bitsOf.f kj13 (⟨#[48, 48, 49]⟩ : ByteArray)).bind fun t510 => ((incunableref06_RunBits.f kj13 (wrap64 (t500 - (mx a2 0))) a3).bind fun t513 => (if t510.length + t513.length < 140737488355328 then ((some (t510 ++ t513 : List Int)).bind fun y516 => ((incunableref06_RunBits.f kj13 (wrap64 (t509 - t500)) (wrap64 (1 - a3))).bind fun t519 => (if y516.length + t519.length < 140737488355328 then (some ((⟨#[102, 108, 97, 116]⟩ : ByteArray), (y516 ++ t519), t509, a3)) else (none)))) else (none)))) = some (r1, r2, r3, r4) := H
     have A24 := Aside0.mk A240
     clear A240
     replace H := Option.bind_eq_some_iff.mp H
     obtain ⟨t510, A250, H⟩ := H
     replace H : ((incunableref06_RunBits.f kj13 (wrap64 (t500 - (mx a2 0))) a3).bind fun t513 => (if t510.length + t513.length < 140737488355328 then ((some (t510 ++ t513 : List Int)).bind fun y516 => ((incunableref06_RunBits.f kj13 (wrap64 (t509 - t500)) (wrap64 (1 - a3))).bind fun t519 => (if y516.length + t519.length < 140737488355328 then (some ((⟨#[102, 108, 97, 116]⟩ : ByteArray), (y516 ++ t519), t509, a3)) else (none)))) else (none))) = some (r1, r2, r3, r4) := H
     have A25 := Aside0.mk A250
     clear A250
     obtain ⟨ji26, hji26⟩ : ∃ j_ : Int, (mx a2 0) = j_ := ⟨_, rfl⟩
     replace H : ((incunableref06_RunBits.f kj13 (wrap64 (t500 - (ji26))) a3).bind fun t513 => (if t510.length + t513.length < 140737488355328 then ((some (t510 ++ t513 : List Int)).bind fun y516 => ((incunableref06_RunBits.f kj13 (wrap64 (t509 - t500)) (wrap64 (1 - a3))).bind fun t519 => (if y516.length + t519.length < 140737488355328 then (some ((⟨#[102, 108, 97, 116]⟩ : ByteArray), (y516 ++ t519), t509, a3)) else (none)))) else (none))) = some (r1, r2, r3, r4) := by first | (rw [hji26] at H; exact H) | (simp only [hji26] at H ⊢; exact H)
     (try rw [hji26] at A24)
     (try rw [hji26] at A25)
     have hji26_ : (if a2 < 0 then 0 else a2) = ji26 := hji26
     replace H := Option.bind_eq_some_iff.mp H
     obtain ⟨t513, A270, H⟩ := H
     replace H : (if t510.length + t513.length < 140737488355328 then ((some (t510 ++ t513 : List Int)).bind fun y516 => ((incunableref06_RunBits.f kj13 (wrap64 (t509 - t500)) (wrap64 (1 - a3))).bind fun t519 => (if y516.length + t519.length < 140737488355328 then (some ((⟨#[102, 108, 97, 116]⟩ : ByteArray), (y516 ++ t519), t509, a3)) else (none)))) else (none)) = some (r1, r2, r3, r4) := H
     have A27 := Aside0.mk A270
     clear A270
     by_cases c28 : t510.length + t513.length < 140737488355328
     ·rw [if_pos c28] at H
      have LMc28 := Aside0.mk c28
      clear c28
      obtain ⟨y516, hy_⟩ : ∃ y_ : List Int, y_ = (t510 ++ t513) := ⟨_, rfl⟩
      replace H : ((incunableref06_RunBits.f kj13 (wrap64 (t509 - t500)) (wrap64 (1 - a3))).bind fun t519 => (if y516.length + t519.length < 140737488355328 then (some ((⟨#[102, 108, 97, 116]⟩ : ByteArray), (y516 ++ t519), t509, a3)) else (none))) = some (r1, r2, r3, r4) := rh
      have Ny516 := aE hy_
      clear hy_
      replace H := Option.bind_eq_some_iff.mp H
      obtain ⟨t519, A290, H⟩ := H
      replace H : (if y516.length + t519.length < 140737488355328 then (some ((⟨#[102, 108, 97, 116]⟩ : ByteArray), (y516 ++ t519), t509, a3)) else (none)) = some (r1, r2, r3, r4) := H
      have A29 := Aside0.mk A290
      clear A290
      by_cases c30 : y516.length + t519.length < 140737488355328
      ·rw [if_pos c30] at H
       have LMc30 := Aside0.mk c30
       clear c30
       obtain ⟨y522, hy_⟩ : ∃ y_ : List Int, y_ = (y516 ++ t519) := ⟨_, rfl⟩
       replace H : (some ((⟨#[102, 108, 97, 116]⟩ : ByteArray), y522, t509, a3)) = some (r1, r2, r3, r4) := rh
       have Ny522 := aE hy_
       clear hy_
       simp only [Option.some.injEq, Prod.mk.injEq] at H
       obtain ⟨rfl, rfl, rfl, rfl⟩ := H
       go_wp2_with (first | ((with_reducible refine gf 70 rfl ?_); refine gL (some 56) rfl rfl Tryd.func70 rfl #[.slice A1 l1.length c1, .int .i64 t500, .int .i64 a3] rfl ?_; (with_reducible refine (incunableref06_first.calls kj13 _ _ l1 t500 a3 t509 _ ?side1 ?side2 A24.out).mono ?_); (case side1 => exact cU (Kd.C_below HR1.out HB.out)); (case side2 => exact HC1.out); rintro e w' ⟨rfl, ⟨nd, rfl⟩⟩; refine ⟨_, rfl, ?_⟩; (try (rw [drewN_self wc]; generalize hq_ : World.drewN wc _ = wc; have n0_ : Aside0 (wc.heap[gb497]? = some (.cells #[.string (⟨#[]⟩ : ByteArray), .slice none 0 0, .int .i64 0, .int .i64 0] 37 (0, 0))) := ⟨by rw [← hq_]; exact (bU BK497.out)⟩; have n1_ : Aside0 (Below w.heap.size w wc) := ⟨by rw [← hq_]; exact bl⟩; clear BK497 HB hq_; have BK497 := n0_; have HB := n1_; clear n0_ n1_))) | ((with_reducible refine gf 71 rfl ?_); refine gL (some 57) rfl rfl Tryd.func71 rfl #[.string (⟨#[48, 48, 49]⟩ : ByteArray)] rfl ?_; (with_reducible refine (incunableref06_bitsOf.calls kj13 (⟨#[48, 48, 49]⟩ : ByteArray) t510 _ A25.out).mono ?_); rintro e w31 ⟨v511, rfl, ho0, hb⟩; refine ⟨_, rfl, ?_⟩; have n_ := aC (Kd.R_lower ho0 bz) (aC (blk_below (bU BK497.out) hb) (aE (bs hb))); clear BK497 HB; obtain ⟨HO512, BK497, HB⟩ := n_; (try clear hb); (try clear ho0)) | ((with_reducible refine gf 15 rfl ?_); refine goesL_ (some 63) rfl rfl Tryd.func15 (by kernel_rfl) rfl #[.int .i64 (wrap64 (t500 - (ji26))), .int .i64 a3] rfl (by (try simp only [List.map_toArray, List.map_cons, List.map_nil]); first | done | (simp only [hji26]; rfl) | rfl | (simp only [List.length_drop, List.length_take]; rfl)) ?_; (with_reducible refine (incunableref06_RunBits.calls kj13 (wrap64 (t500 - (ji26))) a3 t513 _ A27.out).mono ?_); rintro e w32 ⟨v514, rfl, ho0, hb⟩; refine ⟨_, rfl, ?_⟩; have n_ := aC (Kd.R_elder' (rU HO512.out) (Kd.R_base ho0) hb) (aC (Kd.R_lower (Kd.R_new' ho0 (Kd.R_lt (rU HO512.out))) bz) (aC (blk_below (bU BK497.out) hb) (aE (bs hb)))); clear HO512 BK497 HB; obtain ⟨HO512, HO515, BK497, HB⟩ := n_; (try clear hb); (try clear ho0); obtain ⟨Ao34, co34, eo34⟩ := Kd.R_slice HO515.out; subst eo34) | ((with_reducible refine gate_builtin (b := .append) (xs := #[.tmp 57, .tmp 63]) rfl ?_); at_builtin; refine Kd.R_append_rows (Kd.int .u8) (w0 := w) w.heap.size rfl (.tmp 57) (.tmp 63) 22 5 (.int .u8 0) 1 rfl Tryd.underlying22 info5 rfl (by decide) (by omega) v511 t510 t513 _ _ _ (fun k_ => some k_ ≠ (.slice Ao34 t513.length co34 : Value).ownBlock) (fun _ => False) rfl rfl ?aO ?aR (fun _ _ h => h) (fun _ h => h.elim) ?aF ?aB ?aS ?aL ?_; (case aR => repeat (first | exact (Kd.R_reads' HO515.out).2.2 | (with_reducible refine Kd.C_alloc ?_ _) | (with_reducible refine Kd.C_drewN ?_ _) | (with_reducible refine Kd.C_drew ?_))); (case aB => exact bl); (case aF => exact (fun k_ hk => Kd.fresh' (Kd.R_lt (rU HO515.out)) k_ hk)); (case aO => exact (rU (Kd.R_mono HO512.out (fun _ hk => hk.2)))); (case aS => exact bz); (case aL => have := LMc28.out; omega); intro v517 w33 ho hb hg hat; rw [← Ny516.out] at ho; have n_ := aC (blk_grown (bU BK497.out) hg (Kd.R_ne HO512.out BK497.out (by decide))) (aC (Kd.R_after (ok := (fun _ => True)) (rU HO515.out) hg hat) (aC hb (aE ho))); clear BK497 HO515 HB HO512; obtain ⟨BK497, HO515, HB, HO518⟩ := n_; clear ho hb hg hat) | ((with_reducible refine gf 15 rfl ?_); refine gL (some 71) rfl rfl Tryd.func15 rfl #[.int .i64 (wrap64 (t509 - t500)), .int .i64 (wrap64 (1 - a3))] rfl ?_; (with_reducible refine (incunableref06_RunBits.calls kj13 (wrap64 (t509 - t500)) (wrap64 (1 - a3)) t519 _ A29.out).mono ?_); rintro e w35 ⟨v520, rfl, ho0, hb⟩; refine ⟨_, rfl, ?_⟩; have n_ := aC (Kd.R_elder' (rU HO515.out) (Kd.R_base ho0) hb) (aC (Kd.R_elder' (rU HO518.out) (Kd.R_base ho0) hb) (aC (Kd.R_lower (Kd.R_new' (Kd.R_new' ho0 (Kd.R_lt (rU HO515.out))) (Kd.R_lt (rU HO518.out))) bz) (aC (blk_below (bU BK497.out) hb) (aE (bs hb))))); clear HO515 HO518 BK497 HB; obtain ⟨HO515, HO518, HO521, BK497, HB⟩ := n_; (try clear hb); (try clear ho0); obtain ⟨Ao37, co37, eo37⟩ := Kd.R_slice HO521.out; subst eo37) | ((with_reducible refine gate_builtin (b := .append) (xs := #[.tmp 65, .tmp 71]) rfl ?_); at_builtin; refine Kd.R_append_rows (Kd.int .u8) (w0 := w) w.heap.size rfl (.tmp 65) (.tmp 71) 22 5 (.int .u8 0) 1 rfl Tryd.underlying22 info5 rfl (by decide) (by omega) v517 y516 t519 _ _ _ (fun k_ => some k_ ≠ (.slice Ao34 t513.length co34 : Value).ownBlock ∧ some k_ ≠ (.slice Ao37 t519.length co37 : Value).ownBlock) (fun _ => False) rfl rfl ?aO ?aR (fun _ _ h => h) (fun _ h => h.elim) ?aF ?aB ?aS ?aL ?_; (case aR => repeat (first | exact (Kd.R_reads' HO521.out).2.2 | (with_reducible refine Kd.C_alloc ?_ _) | (with_reducible refine Kd.C_drewN ?_ _) | (with_reducible refine Kd.C_drew ?_))); (case aB => exact bl); (case aF => exact (fun k_ hk => ⟨Kd.fresh' (Kd.R_lt (rU HO515.out)) k_ hk, Kd.fresh' (Kd.R_lt (rU HO521.out)) k_ hk⟩)); (case aO => exact (rU HO518.out)); (case aS => exact bz); (case aL => have := LMc30.out; omega); intro v523 w36 ho hb hg hat; rw [← Ny522.out] at ho; have n_ := aC (blk_grown (bU BK497.out) hg (Kd.R_ne HO518.out BK497.out (by decide))) (aC (Kd.R_after (ok := (fun k_ => some k_ ≠ (.slice Ao37 t519.length co37 : Value).ownBlock)) (rU (Kd.R_mono HO515.out (fun _ hk => ⟨hk.2, hk.1.2⟩))) hg hat) (aC (Kd.R_after (ok := (fun k_ => some k_ ≠ (.slice Ao34 t513.length co34 : Value).ownBlock)) (rU (Kd.R_mono HO521.out (fun _ hk => ⟨hk.1.2, hk.2⟩))) hg hat) (aC hb (aE ho)))); clear BK497 HO515 HO521 HB HO518; obtain ⟨BK497, HO515, HO521, HB, HO524⟩ := n_; clear ho hb hg hat; obtain ⟨Ao38, co38, eo38⟩ := Kd.R_slice HO524.out; subst eo38; obtain ⟨hcz39_0, hcz39_1, hcz39_2, hcz39_3, hfz39_0, hfz39_1, hfz39_2, hfz39_3⟩ := cz4f BK497.out))
       refine bodyPost_ret (results_cell_row rfl _ _ gb497 37 #[.string (⟨#[102, 108, 97, 116]⟩ : ByteArray), .slice Ao38 y522.length co38, .int .i64 t509, .int .i64 a3] (0, 0) _ rfl (by (with_reducible repeat (first | refine blk_drewN ?_ _ | refine blk_drew ?_ | refine blk_alloc ?_ _)); refine blk_put (cs := #[.string (⟨#[102, 108, 97, 116]⟩ : ByteArray), .slice Ao38 y522.length co38, .int .i64 t509, .int .i64 0]) ?_ 3 _ rfl; (with_reducible repeat (first | refine blk_drewN ?_ _ | refine blk_drew ?_ | refine blk_alloc ?_ _)); refine blk_put (cs := #[.string (⟨#[102, 108, 97, 116]⟩ : ByteArray), .slice Ao38 y522.length co38, .int .i64 0, .int .i64 0]) ?_ 2 _ rfl; (with_reducible repeat (first | refine blk_drewN ?_ _ | refine blk_drew ?_ | refine blk_alloc ?_ _)); refine blk_put (cs := #[.string (⟨#[102, 108, 97, 116]⟩ : ByteArray), .slice none 0 0, .int .i64 0, .int .i64 0]) ?_ 1 _ rfl; (with_reducible repeat (first | refine blk_drewN ?_ _ | refine blk_drew ?_ | refine blk_alloc ?_ _)); refine blk_put (cs := #[.string (⟨#[]⟩ : ByteArray), .slice none 0 0, .int .i64 0, .int .i64 0]) ?_ 0 _ rfl; (with_reducible repeat (first | refine blk_drewN ?_ _ | refine blk_drew ?_ | refine blk_alloc ?_ _)); exact BK497.out) Tryd.underlying37 rfl (by kernel_rfl)) rfl ?_
       exact ⟨_, by first | rfl | (simp [errW_none, errW_some] <;> rfl) | (simp only [← hji26]; first | rfl | (simp [errW_none, errW_some] <;> rfl)) | (simp [*, errW_none, errW_some] <;> rfl), rU (Kd.R_mono (Kd.R_far (p := ⟨gb497, 3, none⟩) (Kd.R_far (p := ⟨gb497, 2, none⟩) (Kd.R_far (p := ⟨gb497, 1, none⟩) (Kd.R_far (p := ⟨gb497, 0, none⟩) (Kd.R_types HO524.out BK497.out (by decide)) (fun _ hk => hk.2) (.string (⟨#[102, 108, 97, 116]⟩ : ByteArray))) (fun _ hk => hk.2) (.slice Ao38 y522.length co38)) (fun _ hk => hk.2) (.int .i64 t509)) (fun _ hk => hk.2) (.int .i64 a3)) (fun _ hk => trivial)), bl⟩
      ·rw [if_neg c30] at H
       exact absurd H (by simp)
     ·rw [if_neg c28] at H
      exact absurd H (by simp)

/-! ### incunableref06_Modes: function 18 -/
def incunableref06_Modes.l0 : Nat → List Int → List Int → List (S37) → Int → Int → Option ((List (S37)))
 | 0, _, _, _, _, _ => none
 | k + 1, x0, x1, x5, x6, x7 => if (x1.length : Int) > 0 then (if x6 < (x1.length : Int) then ((incunableref06_Choice.f k x0 x1 x6 x7).bind fun bt525 => (if x5.length < 2513169434916 then (incunableref06_Modes.l0 k x0 x1 (x5 ++ [(⟨bt525.1, bt525.2.1, bt525.2.2.1, bt525.2.2.2⟩ : S37)]) bt525.2.2.1 bt525.2.2.2) else (none))) else (some x5)) else (some x5)
def incunableref06_Modes.f (k : Nat) (l0 : List Int) (l1 : List Int) : Option ((List (S37))) := incunableref06_Modes.l0 k l0 l1 ([] : List (S37)) (-1) 0
theorem incunableref06_Modes.mono_l : ∀ k, (∀ y0 y1 y2 y3 y4, LeO (incunableref06_Modes.l0 k y0 y1 y2 y3 y4) (incunableref06_Modes.l0 (k + 1) y0 y1 y2 y3 y4))
 | 0 => fun _ _ _ _ _ r h => by simp [incunableref06_Modes.l0] at h
 | k + 1 => by
  have ih0 := incunableref06_Modes.mono_l k
  ·intro y0 y1 y2 y3 y4
   unfold incunableref06_Modes.l0
   repeat' first
   | (with_reducible exact ih0 _ _ _ _ _)
   | (with_reducible exact incunableref06_Choice.mono _ _ _ _ _)
   | (with_reducible first | exact LeO.refl _ | exact LeO.none _ | refine LeO.ite ?_ ?_ | refine LeO.bind ?_ (fun _ => ?_))
   | exact ih0 _ _ _ _ _
   | exact incunableref06_Choice.mono _ _ _ _ _
   | exact LeO.none _ | refine LeO.ite ?_ ?_ | refine LeO.bind ?_ (fun _ => ?_)
theorem incunableref06_Modes.mono : ∀ a0 a1 k, LeO (incunableref06_Modes.f k a0 a1) (incunableref06_Modes.f (k + 1) a0 a1) := by
 intro a0 a1 k
 have ih0 := incunableref06_Modes.mono_l k
 unfold incunableref06_Modes.f
 repeat' first
   | (with_reducible exact ih0 _ _ _ _ _)
   | (with_reducible exact incunableref06_Choice.mono _ _ _ _ _)
   | (with_reducible first | exact LeO.refl _ | exact LeO.none _ | refine LeO.ite ?_ ?_ | refine LeO.bind ?_ (fun _ => ?_))
   | exact ih0 _ _ _ _ _
   | exact incunableref06_Choice.mono _ _ _ _ _
   | exact LeO.none _ | refine LeO.ite ?_ ?_ | refine LeO.bind ?_ (fun _ => ?_)
set_option maxHeartbeats 8000000 in
set_option maxRecDepth 100000 in
theorem incunableref06_Modes.calls (k : Nat) (A0 : Option Addr) (c0 : Nat) (l0 : List Int) (A1 : Option Addr) (c1 : Nat) (l1 : List Int) (r : List (S37)) (w : World) (hr0 : Kd.C (Kd.int .u8) w A0 l0.length l0) (hc0 : l0.length ≤ c0) (hr1 : Kd.C (Kd.int .u8) w A1 l1.length l1) (hc1 : l1.length ≤ c1) (h : incunableref06_Modes.f k l0 l1 = some r) :
  Calls Tryd.prog 18 #[.slice A0 l0.length c0, .slice A1 l1.length c1] w fun e w' => ∃ v0_ : Value, e = .returned (v0_) ∧ Kd.S k37 37 w' w.heap.size (fun _ => True) v0_ r ∧ Below w.heap.size w w' := by
 have hu37 := Tryd.underlying37
 have HR0 := Aside0.mk hr0
 have HC0 := Aside0.mk hc0
 clear hr0 hc0
 have HR1 := Aside0.mk hr1
 have HC1 := Aside0.mk hc1
 clear hr1 hc1
 have HB := Aside0.mk (Below.refl w.heap.size w)
 have H : (incunableref06_Modes.l0 k l0 l1 ([] : List (S37)) (-1) 0) = some r := h
 clear h
 have H' := Aside0.mk H
 clear H
 go_enter Tryd.func18, Tryd.ntmps18
 go_wp2
 go_loopg [5, 6, 7] k (fun kq v5 v6 v7 w' => ∃ (x5_1 : List (S37)) (x6_1 : Int) (x7_1 : Int), v6 = .int .i64 x6_1 ∧ v7 = .int .i64 x7_1 ∧ Aside0 (incunableref06_Modes.l0 kq l0 l1 x5_1 x6_1 x7_1 = some r) ∧ Aside0 (kq ≤ k) ∧ Aside0 (Kd.S k37 37 w' w.heap.size (fun _ => True) v5 x5_1) ∧ Aside0 (Below w.heap.size w w'))
 case atStart => exact ⟨(([] : List (S37))), ((-1)), (0), rq, rq, H', ⟨Nat.le_refl _⟩, ⟨by first | exact Kd.S_nil _ _ _ _ _ | exact Kd.N_nil _ _ _ _ _ | exact Kd.V_nil _ _ _ _ _ | exact Kd.Q_nil _ _ _ _ _ | exact Kd.R_nil _ _ _ _ _⟩, ⟨bl⟩⟩
 case round =>
  clear H'
  try clear c1
  obtain ⟨x5_1, x6_1, x7_1, rfl, rfl, HA, HK1, HO_5, HB⟩ := hrel
  cases gk with
  | zero => exact absurd HA.out (by simp [incunableref06_Modes.l0])
  | succ k1 =>
   have H := HA.out
   clear HA
   simp only [incunableref06_Modes.l0] at H
   by_cases c3 : (l1.length : Int) > 0
   ·rw [if_pos c3] at H
    have c3b0 := decide_eq_true c3
    have c3b1 : decide (0 < l1.length) = true := decide_eq_true (by omega)
    clear c3
    by_cases c4 : x6_1 < (l1.length : Int)
    ·rw [if_pos c4] at H
     have c4b0 := decide_eq_true c4
     clear c4
     replace H := Option.bind_eq_some_iff.mp H
     obtain ⟨⟨t525, t526, t529, t530⟩, A50, H⟩ := H
     replace H : (if x5_1.length < 2513169434916 then (incunableref06_Modes.l0 k1 l0 l1 (x5_1 ++ [(⟨t525, t526, t529, t530⟩ : S37)]) t529 t530) else (none)) = some r := H
     have A5 := Aside0.mk A50
     clear A50
     by_cases c6 : x5_1.length < 2513169434916
     ·rw [if_pos c6] at H
      have LMc6 := Aside0.mk c6
      clear c6
      obtain ⟨y532, hy_⟩ : ∃ y_ : List (S37), y_ = (x5_1 ++ [(⟨t525, t526, t529, t530⟩ : S37)]) := ⟨_, rfl⟩
      replace H : (incunableref06_Modes.l0 k1 l0 l1 y532 t529 t530) = some r := rh
      have Ny532 := aE hy_
      clear hy_
      have H' := Aside0.mk H
      clear H
      go_wp2_with (first | (go_at_call 44; (with_reducible refine (incunableref06_Choice.calls k1 _ _ l0 _ _ l1 x6_1 x7_1 t525 t526 t529 t530 _ ?side1 ?side2 ?side3 ?side4 A5.out).mono ?_); (case side1 => exact cU (Kd.C_below HR0.out HB.out)); (case side2 => exact HC0.out); (case side3 => exact cU (Kd.C_below HR1.out HB.out)); (case side4 => exact HC1.out); rintro e w7 ⟨v527, rfl, ho0, hb⟩; have n_ := aC (Kd.S_elder' (by (with_reducible repeat (first | apply Kd.S_alloc | apply Kd.S_drewN | apply Kd.S_drew)); exact HO_5.out) (Kd.R_base ho0) hb) (aC (Kd.R_lower ho0 bz) (aE (bs hb))); clear HO_5 HB; obtain ⟨HO_5, HO528, HB⟩ := n_; (try clear hb); (try clear ho0)) | ((with_reducible refine gd 8 rfl ?_); (try (refine gate_guard (by rfl) ?_; dsimp only)); refine bx 8 #[.string (⟨#[]⟩ : ByteArray), .slice none 0 0, .int .i64 0, .int .i64 0] 37 rfl rfl ?_; intro gb531 hg w8 hbox hb; have n_ := aC (Kd.S_below (Kd.S_elderB (by (with_reducible repeat (first | apply Kd.S_alloc | apply Kd.S_drewN | apply Kd.S_drew)); exact HO_5.out) gb531 (Nat.le_of_eq hg.symm)) hb) (aC (Kd.R_below (rU HO528.out) hb) (aC (bs hb) (aC hbox (aC (gz hg) (aE (gz hg)))))); clear HO_5 HO528 HB; obtain ⟨HO_5, HO528, HB, BK531, GW531, GE531⟩ := n_; clear hb hbox hg; obtain ⟨hcz9_0, hcz9_1, hcz9_2, hcz9_3, hfz9_0, hfz9_1, hfz9_2, hfz9_3⟩ := cz4f BK531.out; obtain ⟨Ao10, co10, eo10⟩ := Kd.R_slice HO528.out; subst eo10) | ((with_reducible refine gate_store (t := 37) (p := 8) rfl ?_); (try (rw [drewN_self w8]; generalize hq_ : World.drewN w8 _ = w8; have n0_ := Aside0.mk (Kd.S_at hq_ HO_5.out); have n1_ := Aside0.mk (Kd.R_at hq_ HO528.out); have n2_ := Aside0.mk (blk_at hq_ BK531.out); have n3_ := Aside0.mk (below_at hq_ HB.out); clear hq_ HO_5 HO528 BK531 HB; have HO_5 := n0_; have HO528 := n1_; have BK531 := n2_; have HB := n3_; clear n0_ n1_ n2_ n3_)); refine store_event (t := 37) (p := 8) (v := ?vo_w11) (w1 := ((((w8.setCell ⟨gb531, 0, none⟩ (.string t525)).setCell ⟨gb531, 1, none⟩ (.slice Ao10 t526.length co10)).setCell ⟨gb531, 2, none⟩ (.int .i64 t529)).setCell ⟨gb531, 3, none⟩ (.int .i64 t530))) ?hg ?ho ?hn ?hr ?_; (case ho => rfl); (case hg => rfl); (case hn => rfl); (case hr => first | (go_simp; done) | (go_simp; rfl)); intro w11 hw; have n_ := aC (show Kd.S k37 37 w11 w.heap.size (fun k_ => some k_ ≠ (.slice Ao10 t526.length co10 : Value).ownBlock ∧ k_ ≠ gb531) u5 x5_1 from (by rw [hw]; exact (by (with_reducible repeat (first | apply Kd.S_alloc | apply Kd.S_drewN | apply Kd.S_drew)); exact Kd.S_mono (Kd.S_far (p := ⟨gb531, 3, none⟩) (Kd.S_far (p := ⟨gb531, 2, none⟩) (Kd.S_far (p := ⟨gb531, 1, none⟩) (Kd.S_far (p := ⟨gb531, 0, none⟩) (Kd.S_mono HO_5.out (fun k_ hk => (⟨hk, hk.2⟩ : _ ∧ k_ ≠ gb531))) (fun _ hk => hk.2) (.string t525)) (fun _ hk => hk.2) (.slice Ao10 t526.length co10)) (fun _ hk => hk.2) (.int .i64 t529)) (fun _ hk => hk.2) (.int .i64 t530)) (fun _ hk => ⟨hk.1.1.2, hk.1.2⟩)))) (aC (show Kd.R (Kd.int .u8) 5 w11 w.heap.size (fun _ => True) (.slice Ao10 t526.length co10) t526 from (by rw [hw]; exact (rU (Kd.R_mono (Kd.R_far (p := ⟨gb531, 3, none⟩) (Kd.R_far (p := ⟨gb531, 2, none⟩) (Kd.R_far (p := ⟨gb531, 1, none⟩) (Kd.R_far (p := ⟨gb531, 0, none⟩) (Kd.R_types HO528.out BK531.out (by decide)) (fun _ hk => hk.2) (.string t525)) (fun _ hk => hk.2) (.slice Ao10 t526.length co10)) (fun _ hk => hk.2) (.int .i64 t529)) (fun _ hk => hk.2) (.int .i64 t530)) (fun _ hk => trivial))))) (aC (show w11.heap[gb531]? = some (.cells #[.string t525, .slice Ao10 t526.length co10, .int .i64 t529, .int .i64 t530] 37 (0, 0)) from (by rw [hw]; exact (by (with_reducible repeat (first | refine blk_drewN ?_ _ | refine blk_drew ?_ | refine blk_alloc ?_ _)); refine blk_put (cs := #[.string t525, .slice Ao10 t526.length co10, .int .i64 t529, .int .i64 0]) ?_ 3 _ rfl; (with_reducible repeat (first | refine blk_drewN ?_ _ | refine blk_drew ?_ | refine blk_alloc ?_ _)); refine blk_put (cs := #[.string t525, .slice Ao10 t526.length co10, .int .i64 0, .int .i64 0]) ?_ 2 _ rfl; (with_reducible repeat (first | refine blk_drewN ?_ _ | refine blk_drew ?_ | refine blk_alloc ?_ _)); refine blk_put (cs := #[.string t525, .slice none 0 0, .int .i64 0, .int .i64 0]) ?_ 1 _ rfl; (with_reducible repeat (first | refine blk_drewN ?_ _ | refine blk_drew ?_ | refine blk_alloc ?_ _)); refine blk_put (cs := #[.string (⟨#[]⟩ : ByteArray), .slice none 0 0, .int .i64 0, .int .i64 0]) ?_ 0 _ rfl; (with_reducible repeat (first | refine blk_drewN ?_ _ | refine blk_drew ?_ | refine blk_alloc ?_ _)); exact BK531.out))) (aE (show Below w.heap.size w w11 from (by rw [hw]; exact bl))))); clear hw HO_5 HO528 BK531 HB; obtain ⟨HO_5, HO528, BK531, HB⟩ := n_; obtain ⟨hcz12_0, hcz12_1, hcz12_2, hcz12_3, hfz12_0, hfz12_1, hfz12_2, hfz12_3⟩ := cz4f BK531.out) | ((with_reducible refine gate_builtin (b := .append) (xs := #[.tmp 23, .tmp 25]) rfl ?_); (try (refine gate_guard (by rfl) ?_; dsimp only)); at_builtin; refine Kd.S_append k37 (w0 := w) w.heap.size rfl (.tmp 23) (.tmp 25) 34 37 (.agg #[(.string ⟨#[]⟩), (.slice none 0 0), (.int .i64 0), (.int .i64 0)]) 56 rfl Tryd.underlying34 info37 rfl (by decide) (by omega) u5 x5_1 (⟨t525, t526, t529, t530⟩ : S37) [.string t525, .slice Ao10 t526.length co10, .int .i64 t529, .int .i64 t530] (fun k_ => k_ ≠ gb531) (fun k_ => some k_ = (.slice Ao10 t526.length co10 : Value).ownBlock) rfl rfl ?aP (fun k_ hk_ => ((Kd.R_mono (ok' := fun k_ => ((fun k_ => k_ ≠ gb531)) k_ ∧ some k_ ≠ (u5 : Value).ownBlock) (Kd.R_types (Kd.R_apart' (HO528.out) (Kd.S_typed HO_5.out) (by decide)) BK531.out (by decide)) (fun k_ hk => ⟨hk.2, hk.1.2⟩))).1 k_ hk_.symm) ?aF ?aO ?aB ?aS ?aL ?_; (case aP => exact k37_mkM _ _ _ (⟨t525, t526, t529, t530⟩ : S37) (Kd.R_mono (Kd.R_tight rfl (Kd.R_mono (ok' := fun k_ => ((fun k_ => k_ ≠ gb531)) k_ ∧ some k_ ≠ (u5 : Value).ownBlock) (Kd.R_types (Kd.R_apart' (HO528.out) (Kd.S_typed HO_5.out) (by decide)) BK531.out (by decide)) (fun k_ hk => ⟨hk.2, hk.1.2⟩))) (fun _ h_ => h_))); (case aB => exact bl); (case aF => exact (fun k_ hk => Kd.freshB (bU BK531.out) k_ hk)); (case aO => exact (by (with_reducible repeat (first | apply Kd.S_alloc | apply Kd.S_drewN | apply Kd.S_drew)); exact Kd.S_mono HO_5.out (fun k_ hk => ⟨hk.2, fun e_ => hk.1 e_⟩))); (case aS => exact bz); (case aL => have := LMc6.out; omega); intro v533 w13 ho hb hg hat; rw [← Ny532.out] at ho; have n_ := aC (blk_grown (bU BK531.out) hg (Kd.S_away HO_5.out (fun _ hk => hk.2))) (aC hb (aE ho)); clear BK531 HB HO_5 HO528; obtain ⟨BK531, HB, HO534⟩ := n_; clear ho hb hg hat; obtain ⟨hcz14_0, hcz14_1, hcz14_2, hcz14_3, hfz14_0, hfz14_1, hfz14_2, hfz14_3⟩ := cz4f BK531.out))
      repeat (go_quiet (first | (go_at_call 44; (with_reducible refine (incunableref06_Choice.calls k1 _ _ l0 _ _ l1 x6_1 x7_1 t525 t526 t529 t530 _ ?side1 ?side2 ?side3 ?side4 A5.out).mono ?_); (case side1 => exact cU (Kd.C_below HR0.out HB.out)); (case side2 => exact HC0.out); (case side3 => exact cU (Kd.C_below HR1.out HB.out)); (case side4 => exact HC1.out); rintro e w7 ⟨v527, rfl, ho0, hb⟩; have n_ := aC (Kd.S_elder' (by (with_reducible repeat (first | apply Kd.S_alloc | apply Kd.S_drewN | apply Kd.S_drew)); exact HO_5.out) (Kd.R_base ho0) hb) (aC (Kd.R_lower ho0 bz) (aE (bs hb))); clear HO_5 HB; obtain ⟨HO_5, HO528, HB⟩ := n_; (try clear hb); (try clear ho0)) | ((with_reducible refine gd 8 rfl ?_); (try (refine gate_guard (by rfl) ?_; dsimp only)); refine bx 8 #[.string (⟨#[]⟩ : ByteArray), .slice none 0 0, .int .i64 0, .int .i64 0] 37 rfl rfl ?_; intro gb531 hg w8 hbox hb; have n_ := aC (Kd.S_below (Kd.S_elderB (by (with_reducible repeat (first | apply Kd.S_alloc | apply Kd.S_drewN | apply Kd.S_drew)); exact HO_5.out) gb531 (Nat.le_of_eq hg.symm)) hb) (aC (Kd.R_below (rU HO528.out) hb) (aC (bs hb) (aC hbox (aC (gz hg) (aE (gz hg)))))); clear HO_5 HO528 HB; obtain ⟨HO_5, HO528, HB, BK531, GW531, GE531⟩ := n_; clear hb hbox hg; obtain ⟨hcz9_0, hcz9_1, hcz9_2, hcz9_3, hfz9_0, hfz9_1, hfz9_2, hfz9_3⟩ := cz4f BK531.out; obtain ⟨Ao10, co10, eo10⟩ := Kd.R_slice HO528.out; subst eo10) | ((with_reducible refine gate_store (t := 37) (p := 8) rfl ?_); (try (rw [drewN_self w8]; generalize hq_ : World.drewN w8 _ = w8; have n0_ := Aside0.mk (Kd.S_at hq_ HO_5.out); have n1_ := Aside0.mk (Kd.R_at hq_ HO528.out); have n2_ := Aside0.mk (blk_at hq_ BK531.out); have n3_ := Aside0.mk (below_at hq_ HB.out); clear hq_ HO_5 HO528 BK531 HB; have HO_5 := n0_; have HO528 := n1_; have BK531 := n2_; have HB := n3_; clear n0_ n1_ n2_ n3_)); refine store_event (t := 37) (p := 8) (v := ?vo_w11) (w1 := ((((w8.setCell ⟨gb531, 0, none⟩ (.string t525)).setCell ⟨gb531, 1, none⟩ (.slice Ao10 t526.length co10)).setCell ⟨gb531, 2, none⟩ (.int .i64 t529)).setCell ⟨gb531, 3, none⟩ (.int .i64 t530))) ?hg ?ho ?hn ?hr ?_; (case ho => rfl); (case hg => rfl); (case hn => rfl); (case hr => first | (go_simp; done) | (go_simp; rfl)); intro w11 hw; have n_ := aC (show Kd.S k37 37 w11 w.heap.size (fun k_ => some k_ ≠ (.slice Ao10 t526.length co10 : Value).ownBlock ∧ k_ ≠ gb531) u5 x5_1 from (by rw [hw]; exact (by (with_reducible repeat (first | apply Kd.S_alloc | apply Kd.S_drewN | apply Kd.S_drew)); exact Kd.S_mono (Kd.S_far (p := ⟨gb531, 3, none⟩) (Kd.S_far (p := ⟨gb531, 2, none⟩) (Kd.S_far (p := ⟨gb531, 1, none⟩) (Kd.S_far (p := ⟨gb531, 0, none⟩) (Kd.S_mono HO_5.out (fun k_ hk => (⟨hk, hk.2⟩ : _ ∧ k_ ≠ gb531))) (fun _ hk => hk.2) (.string t525)) (fun _ hk => hk.2) (.slice Ao10 t526.length co10)) (fun _ hk => hk.2) (.int .i64 t529)) (fun _ hk => hk.2) (.int .i64 t530)) (fun _ hk => ⟨hk.1.1.2, hk.1.2⟩)))) (aC (show Kd.R (Kd.int .u8) 5 w11 w.heap.size (fun _ => True) (.slice Ao10 t526.length co10) t526 from (by rw [hw]; exact (rU (Kd.R_mono (Kd.R_far (p := ⟨gb531, 3, none⟩) (Kd.R_far (p := ⟨gb531, 2, none⟩) (Kd.R_far (p := ⟨gb531, 1, none⟩) (Kd.R_far (p := ⟨gb531, 0, none⟩) (Kd.R_types HO528.out BK531.out (by decide)) (fun _ hk => hk.2) (.string t525)) (fun _ hk => hk.2) (.slice Ao10 t526.length co10)) (fun _ hk => hk.2) (.int .i64 t529)) (fun _ hk => hk.2) (.int .i64 t530)) (fun _ hk => trivial))))) (aC (show w11.heap[gb531]? = some (.cells #[.string t525, .slice Ao10 t526.length co10, .int .i64 t529, .int .i64 t530] 37 (0, 0)) from (by rw [hw]; exact (by (with_reducible repeat (first | refine blk_drewN ?_ _ | refine blk_drew ?_ | refine blk_alloc ?_ _)); refine blk_put (cs := #[.string t525, .slice Ao10 t526.length co10, .int .i64 t529, .int .i64 0]) ?_ 3 _ rfl; (with_reducible repeat (first | refine blk_drewN ?_ _ | refine blk_drew ?_ | refine blk_alloc ?_ _)); refine blk_put (cs := #[.string t525, .slice Ao10 t526.length co10, .int .i64 0, .int .i64 0]) ?_ 2 _ rfl; (with_reducible repeat (first | refine blk_drewN ?_ _ | refine blk_drew ?_ | refine blk_alloc ?_ _)); refine blk_put (cs := #[.string t525, .slice none 0 0, .int .i64 0, .int .i64 0]) ?_ 1 _ rfl; (with_reducible repeat (first | refine blk_drewN ?_ _ | refine blk_drew ?_ | refine blk_alloc ?_ _)); refine blk_put (cs := #[.string (⟨#[]⟩ : ByteArray), .slice none 0 0, .int .i64 0, .int .i64 0]) ?_ 0 _ rfl; (with_reducible repeat (first | refine blk_drewN ?_ _ | refine blk_drew ?_ | refine blk_alloc ?_ _)); exact BK531.out))) (aE (show Below w.heap.size w w11 from (by rw [hw]; exact bl))))); clear hw HO_5 HO528 BK531 HB; obtain ⟨HO_5, HO528, BK531, HB⟩ := n_; obtain ⟨hcz12_0, hcz12_1, hcz12_2, hcz12_3, hfz12_0, hfz12_1, hfz12_2, hfz12_3⟩ := cz4f BK531.out) | ((with_reducible refine gate_builtin (b := .append) (xs := #[.tmp 23, .tmp 25]) rfl ?_); (try (refine gate_guard (by rfl) ?_; dsimp only)); at_builtin; refine Kd.S_append k37 (w0 := w) w.heap.size rfl (.tmp 23) (.tmp 25) 34 37 (.agg #[(.string ⟨#[]⟩), (.slice none 0 0), (.int .i64 0), (.int .i64 0)]) 56 rfl Tryd.underlying34 info37 rfl (by decide) (by omega) u5 x5_1 (⟨t525, t526, t529, t530⟩ : S37) [.string t525, .slice Ao10 t526.length co10, .int .i64 t529, .int .i64 t530] (fun k_ => k_ ≠ gb531) (fun k_ => some k_ = (.slice Ao10 t526.length co10 : Value).ownBlock) rfl rfl ?aP (fun k_ hk_ => ((Kd.R_mono (ok' := fun k_ => ((fun k_ => k_ ≠ gb531)) k_ ∧ some k_ ≠ (u5 : Value).ownBlock) (Kd.R_types (Kd.R_apart' (HO528.out) (Kd.S_typed HO_5.out) (by decide)) BK531.out (by decide)) (fun k_ hk => ⟨hk.2, hk.1.2⟩))).1 k_ hk_.symm) ?aF ?aO ?aB ?aS ?aL ?_; (case aP => exact k37_mkM _ _ _ (⟨t525, t526, t529, t530⟩ : S37) (Kd.R_mono (Kd.R_tight rfl (Kd.R_mono (ok' := fun k_ => ((fun k_ => k_ ≠ gb531)) k_ ∧ some k_ ≠ (u5 : Value).ownBlock) (Kd.R_types (Kd.R_apart' (HO528.out) (Kd.S_typed HO_5.out) (by decide)) BK531.out (by decide)) (fun k_ hk => ⟨hk.2, hk.1.2⟩))) (fun _ h_ => h_))); (case aB => exact bl); (case aF => exact (fun k_ hk => Kd.freshB (bU BK531.out) k_ hk)); (case aO => exact (by (with_reducible repeat (first | apply Kd.S_alloc | apply Kd.S_drewN | apply Kd.S_drew)); exact Kd.S_mono HO_5.out (fun k_ hk => ⟨hk.2, fun e_ => hk.1 e_⟩))); (case aS => exact bz); (case aL => have := LMc6.out; omega); intro v533 w13 ho hb hg hat; rw [← Ny532.out] at ho; have n_ := aC (blk_grown (bU BK531.out) hg (Kd.S_away HO_5.out (fun _ hk => hk.2))) (aC hb (aE ho)); clear BK531 HB HO_5 HO528; obtain ⟨BK531, HB, HO534⟩ := n_; clear ho hb hg hat; obtain ⟨hcz14_0, hcz14_1, hcz14_2, hcz14_3, hfz14_0, hfz14_1, hfz14_2, hfz14_3⟩ := cz4f BK531.out)); try go_wp2_with (first | (go_at_call 44; (with_reducible refine (incunableref06_Choice.calls k1 _ _ l0 _ _ l1 x6_1 x7_1 t525 t526 t529 t530 _ ?side1 ?side2 ?side3 ?side4 A5.out).mono ?_); (case side1 => exact cU (Kd.C_below HR0.out HB.out)); (case side2 => exact HC0.out); (case side3 => exact cU (Kd.C_below HR1.out HB.out)); (case side4 => exact HC1.out); rintro e w7 ⟨v527, rfl, ho0, hb⟩; have n_ := aC (Kd.S_elder' (by (with_reducible repeat (first | apply Kd.S_alloc | apply Kd.S_drewN | apply Kd.S_drew)); exact HO_5.out) (Kd.R_base ho0) hb) (aC (Kd.R_lower ho0 bz) (aE (bs hb))); clear HO_5 HB; obtain ⟨HO_5, HO528, HB⟩ := n_; (try clear hb); (try clear ho0)) | ((with_reducible refine gd 8 rfl ?_); (try (refine gate_guard (by rfl) ?_; dsimp only)); refine bx 8 #[.string (⟨#[]⟩ : ByteArray), .slice none 0 0, .int .i64 0, .int .i64 0] 37 rfl rfl ?_; intro gb531 hg w8 hbox hb; have n_ := aC (Kd.S_below (Kd.S_elderB (by (with_reducible repeat (first | apply Kd.S_alloc | apply Kd.S_drewN | apply Kd.S_drew)); exact HO_5.out) gb531 (Nat.le_of_eq hg.symm)) hb) (aC (Kd.R_below (rU HO528.out) hb) (aC (bs hb) (aC hbox (aC (gz hg) (aE (gz hg)))))); clear HO_5 HO528 HB; obtain ⟨HO_5, HO528, HB, BK531, GW531, GE531⟩ := n_; clear hb hbox hg; obtain ⟨hcz9_0, hcz9_1, hcz9_2, hcz9_3, hfz9_0, hfz9_1, hfz9_2, hfz9_3⟩ := cz4f BK531.out; obtain ⟨Ao10, co10, eo10⟩ := Kd.R_slice HO528.out; subst eo10) | ((with_reducible refine gate_store (t := 37) (p := 8) rfl ?_); (try (rw [drewN_self w8]; generalize hq_ : World.drewN w8 _ = w8; have n0_ := Aside0.mk (Kd.S_at hq_ HO_5.out); have n1_ := Aside0.mk (Kd.R_at hq_ HO528.out); have n2_ := Aside0.mk (blk_at hq_ BK531.out); have n3_ := Aside0.mk (below_at hq_ HB.out); clear hq_ HO_5 HO528 BK531 HB; have HO_5 := n0_; have HO528 := n1_; have BK531 := n2_; have HB := n3_; clear n0_ n1_ n2_ n3_)); refine store_event (t := 37) (p := 8) (v := ?vo_w11) (w1 := ((((w8.setCell ⟨gb531, 0, none⟩ (.string t525)).setCell ⟨gb531, 1, none⟩ (.slice Ao10 t526.length co10)).setCell ⟨gb531, 2, none⟩ (.int .i64 t529)).setCell ⟨gb531, 3, none⟩ (.int .i64 t530))) ?hg ?ho ?hn ?hr ?_; (case ho => rfl); (case hg => rfl); (case hn => rfl); (case hr => first | (go_simp; done) | (go_simp; rfl)); intro w11 hw; have n_ := aC (show Kd.S k37 37 w11 w.heap.size (fun k_ => some k_ ≠ (.slice Ao10 t526.length co10 : Value).ownBlock ∧ k_ ≠ gb531) u5 x5_1 from (by rw [hw]; exact (by (with_reducible repeat (first | apply Kd.S_alloc | apply Kd.S_drewN | apply Kd.S_drew)); exact Kd.S_mono (Kd.S_far (p := ⟨gb531, 3, none⟩) (Kd.S_far (p := ⟨gb531, 2, none⟩) (Kd.S_far (p := ⟨gb531, 1, none⟩) (Kd.S_far (p := ⟨gb531, 0, none⟩) (Kd.S_mono HO_5.out (fun k_ hk => (⟨hk, hk.2⟩ : _ ∧ k_ ≠ gb531))) (fun _ hk => hk.2) (.string t525)) (fun _ hk => hk.2) (.slice Ao10 t526.length co10)) (fun _ hk => hk.2) (.int .i64 t529)) (fun _ hk => hk.2) (.int .i64 t530)) (fun _ hk => ⟨hk.1.1.2, hk.1.2⟩)))) (aC (show Kd.R (Kd.int .u8) 5 w11 w.heap.size (fun _ => True) (.slice Ao10 t526.length co10) t526 from (by rw [hw]; exact (rU (Kd.R_mono (Kd.R_far (p := ⟨gb531, 3, none⟩) (Kd.R_far (p := ⟨gb531, 2, none⟩) (Kd.R_far (p := ⟨gb531, 1, none⟩) (Kd.R_far (p := ⟨gb531, 0, none⟩) (Kd.R_types HO528.out BK531.out (by decide)) (fun _ hk => hk.2) (.string t525)) (fun _ hk => hk.2) (.slice Ao10 t526.length co10)) (fun _ hk => hk.2) (.int .i64 t529)) (fun _ hk => hk.2) (.int .i64 t530)) (fun _ hk => trivial))))) (aC (show w11.heap[gb531]? = some (.cells #[.string t525, .slice Ao10 t526.length co10, .int .i64 t529, .int .i64 t530] 37 (0, 0)) from (by rw [hw]; exact (by (with_reducible repeat (first | refine blk_drewN ?_ _ | refine blk_drew ?_ | refine blk_alloc ?_ _)); refine blk_put (cs := #[.string t525, .slice Ao10 t526.length co10, .int .i64 t529, .int .i64 0]) ?_ 3 _ rfl; (with_reducible repeat (first | refine blk_drewN ?_ _ | refine blk_drew ?_ | refine blk_alloc ?_ _)); refine blk_put (cs := #[.string t525, .slice Ao10 t526.length co10, .int .i64 0, .int .i64 0]) ?_ 2 _ rfl; (with_reducible repeat (first | refine blk_drewN ?_ _ | refine blk_drew ?_ | refine blk_alloc ?_ _)); refine blk_put (cs := #[.string t525, .slice none 0 0, .int .i64 0, .int .i64 0]) ?_ 1 _ rfl; (with_reducible repeat (first | refine blk_drewN ?_ _ | refine blk_drew ?_ | refine blk_alloc ?_ _)); refine blk_put (cs := #[.string (⟨#[]⟩ : ByteArray), .slice none 0 0, .int .i64 0, .int .i64 0]) ?_ 0 _ rfl; (with_reducible repeat (first | refine blk_drewN ?_ _ | refine blk_drew ?_ | refine blk_alloc ?_ _)); exact BK531.out))) (aE (show Below w.heap.size w w11 from (by rw [hw]; exact bl))))); clear hw HO_5 HO528 BK531 HB; obtain ⟨HO_5, HO528, BK531, HB⟩ := n_; obtain ⟨hcz12_0, hcz12_1, hcz12_2, hcz12_3, hfz12_0, hfz12_1, hfz12_2, hfz12_3⟩ := cz4f BK531.out) | ((with_reducible refine gate_builtin (b := .append) (xs := #[.tmp 23, .tmp 25]) rfl ?_); (try (refine gate_guard (by rfl) ?_; dsimp only)); at_builtin; refine Kd.S_append k37 (w0 := w) w.heap.size rfl (.tmp 23) (.tmp 25) 34 37 (.agg #[(.string ⟨#[]⟩), (.slice none 0 0), (.int .i64 0), (.int .i64 0)]) 56 rfl Tryd.underlying34 info37 rfl (by decide) (by omega) u5 x5_1 (⟨t525, t526, t529, t530⟩ : S37) [.string t525, .slice Ao10 t526.length co10, .int .i64 t529, .int .i64 t530] (fun k_ => k_ ≠ gb531) (fun k_ => some k_ = (.slice Ao10 t526.length co10 : Value).ownBlock) rfl rfl ?aP (fun k_ hk_ => ((Kd.R_mono (ok' := fun k_ => ((fun k_ => k_ ≠ gb531)) k_ ∧ some k_ ≠ (u5 : Value).ownBlock) (Kd.R_types (Kd.R_apart' (HO528.out) (Kd.S_typed HO_5.out) (by decide)) BK531.out (by decide)) (fun k_ hk => ⟨hk.2, hk.1.2⟩))).1 k_ hk_.symm) ?aF ?aO ?aB ?aS ?aL ?_; (case aP => exact k37_mkM _ _ _ (⟨t525, t526, t529, t530⟩ : S37) (Kd.R_mono (Kd.R_tight rfl (Kd.R_mono (ok' := fun k_ => ((fun k_ => k_ ≠ gb531)) k_ ∧ some k_ ≠ (u5 : Value).ownBlock) (Kd.R_types (Kd.R_apart' (HO528.out) (Kd.S_typed HO_5.out) (by decide)) BK531.out (by decide)) (fun k_ hk => ⟨hk.2, hk.1.2⟩))) (fun _ h_ => h_))); (case aB => exact bl); (case aF => exact (fun k_ hk => Kd.freshB (bU BK531.out) k_ hk)); (case aO => exact (by (with_reducible repeat (first | apply Kd.S_alloc | apply Kd.S_drewN | apply Kd.S_drew)); exact Kd.S_mono HO_5.out (fun k_ hk => ⟨hk.2, fun e_ => hk.1 e_⟩))); (case aS => exact bz); (case aL => have := LMc6.out; omega); intro v533 w13 ho hb hg hat; rw [← Ny532.out] at ho; have n_ := aC (blk_grown (bU BK531.out) hg (Kd.S_away HO_5.out (fun _ hk => hk.2))) (aC hb (aE ho)); clear BK531 HB HO_5 HO528; obtain ⟨BK531, HB, HO534⟩ := n_; clear ho hb hg hat; obtain ⟨hcz14_0, hcz14_1, hcz14_2, hcz14_3, hfz14_0, hfz14_1, hfz14_2, hfz14_3⟩ := cz4f BK531.out)))
      go_roundg k1
      case measure => have := HK1.out; omega
      case rel => exact ⟨(y532), (t529), (t530), rq, rq, H', ⟨by have := HK1.out; omega⟩, ⟨by (with_reducible repeat (first | apply Kd.S_alloc | apply Kd.S_drewN | apply Kd.S_drew)); exact Kd.S_mono HO534.out (fun _ hk => trivial)⟩, ⟨bl⟩⟩
     ·rw [if_neg c6] at H
      exact absurd H (by simp)
    ·rw [if_neg c4] at H
     have c4b0 := decide_eq_false c4
     clear c4
     obtain rfl := Option.some.inj H
     go_wp2
     go_ret
     exact ⟨_, re, by (with_reducible repeat (first | apply Kd.S_alloc | apply Kd.S_drewN | apply Kd.S_drew)); exact HO_5.out, bl⟩
   ·rw [if_neg c3] at H
    have c3b0 := decide_eq_false c3
    have c3b1 : decide (0 < l1.length) = false := decide_eq_false (by omega)
    clear c3
    obtain rfl := Option.some.inj H
    go_wp2
    go_ret
    exact ⟨_, re, by (with_reducible repeat (first | apply Kd.S_alloc | apply Kd.S_drewN | apply Kd.S_drew)); exact HO_5.out, bl⟩

end Go.Proofs.YtknclbodinfbeaaDoor.PRunsCodes
