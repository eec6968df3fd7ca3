-- Written by a program of this session (wip/tools/myprint.py) over the kit's print. Not trusted: Lean checks it.
import Derived.Test.YtknclbodinfbeaaDoorPRunsRowx0
namespace Go.Proofs.YtknclbodinfbeaaDoor.PRunsRow
open Go.RowKit Go.Proofs.YtknclbodinfbeaaDoorW.PrintWords Go.Proofs.YtknclbodinfbeaaDoorW.PrintLast Go.Proofs.YtknclbodinfbeaaDoorW.PrintMore
attribute [local go_sem] max2_int min2_int max_two min_two max_three min_three max_four min_four   -- for this text's walks alone
set_option linter.unusedVariables false
set_option linter.unusedSimpArgs false

/-! ### incunableref06_IsRow: function 43 -/
def incunableref06_IsRow.l0 : Nat → List Int → Int → Int → Option (Bool)
 | 0, _, _, _ => none
 | k + 1, x5, x6, x7 => if x7 < x6 then (if 0 ≤ x7 then (if x7 < (x5.length : Int) then (if (rd x5 x7) > 1 then (some false) else (incunableref06_IsRow.l0 k x5 x6 (wrap64 (x7 + 1)))) else (none)) else (none)) else (some true)
def incunableref06_IsRow.f (k : Nat) (l0 : List Int) : Option (Bool) := incunableref06_IsRow.l0 k l0 (l0.length : Int) 0
theorem incunableref06_IsRow.mono_l : ∀ k, (∀ y0 y1 y2, LeO (incunableref06_IsRow.l0 k y0 y1 y2) (incunableref06_IsRow.l0 (k + 1) y0 y1 y2))
 | 0 => fun _ _ _ r h => by simp [incunableref06_IsRow.l0] at h
 | k + 1 => by
  have ih0 := incunableref06_IsRow.mono_l k
  ·intro y0 y1 y2
   unfold incunableref06_IsRow.l0
   repeat' first
   | (with_reducible exact ih0 _ _ _)
   | (with_reducible first | exact LeO.refl _ | exact LeO.none _ | refine LeO.ite ?_ ?_ | refine LeO.bind ?_ (fun _ => ?_))
   | exact ih0 _ _ _
   | exact LeO.none _ | refine LeO.ite ?_ ?_ | refine LeO.bind ?_ (fun _ => ?_)
theorem incunableref06_IsRow.mono : ∀ a0 k, LeO (incunableref06_IsRow.f k a0) (incunableref06_IsRow.f (k + 1) a0) := by
 intro a0 k
 have ih0 := incunableref06_IsRow.mono_l k
 unfold incunableref06_IsRow.f
 repeat' first
   | (with_reducible exact ih0 _ _ _)
   | (with_reducible first | exact LeO.refl _ | exact LeO.none _ | refine LeO.ite ?_ ?_ | refine LeO.bind ?_ (fun _ => ?_))
   | exact ih0 _ _ _
   | exact LeO.none _ | refine LeO.ite ?_ ?_ | refine LeO.bind ?_ (fun _ => ?_)
set_option maxHeartbeats 8000000 in
set_option maxRecDepth 100000 in
theorem incunableref06_IsRow.calls (k : Nat) (A0 : Option Addr) (c0 : Nat) (l0 : List Int) (r : Bool) (w : World) (hr0 : Kd.C (Kd.int .u8) w A0 l0.length l0) (hc0 : l0.length ≤ c0) (h : incunableref06_IsRow.f k l0 = some r) :
  Calls Tryd.prog 43 #[.slice A0 l0.length c0] w fun e w' => e = .returned (.bool r) ∧ Drawn0 w w' := by
 have HR0 := Aside0.mk hr0
 have HC0 := Aside0.mk hc0
 clear hr0 hc0
 have H : (incunableref06_IsRow.l0 k l0 (l0.length : Int) 0) = some r := h
 clear h
 have H' := Aside0.mk H
 clear H
 go_enter Tryd.func43, Tryd.ntmps43
 go_wp2
 go_loopg [7] k (fun kq v7 w' => ∃ (x7_1 : Int), v7 = .int .i64 x7_1 ∧ Aside0 (incunableref06_IsRow.l0 kq l0 (l0.length : Int) x7_1 = some r) ∧ Aside0 (kq ≤ k) ∧ Drawn0 w w')
 case atStart => exact ⟨(0), rq, H', ⟨Nat.le_refl _⟩, by repeat (first | exact Drawn0.refl _ | apply Drawn0.step)⟩
 case round =>
  clear H'
  obtain ⟨x7_1, rfl, HA, HK1, ⟨m1, rfl⟩⟩ := hrel
  cases gk with
  | zero => exact absurd HA.out (by simp [incunableref06_IsRow.l0])
  | succ k1 =>
   have H := HA.out
   clear HA
   simp only [incunableref06_IsRow.l0] at H
   by_cases c2 : x7_1 < (l0.length : Int)
   ·rw [if_pos c2] at H
    have c2b0 := decide_eq_true c2
    clear c2
    by_cases c3 : 0 ≤ x7_1
    ·rw [if_pos c3] at H
     have c3b0 := decide_eq_true c3
     clear c3
     by_cases c4 : x7_1 < (l0.length : Int)
     ·rw [if_pos c4] at H
      have c4b0 := decide_eq_true c4
      clear c4
      by_cases c5 : (rd l0 x7_1) > 1
      ·rw [if_pos c5] at H
       have c5b0 := decide_eq_true c5
       clear c5
       obtain rfl := Option.some.inj H
       have p270 : 0 ≤ (x7_1 : Int) := dt
       have q270 : x7_1 < (l0.length : Int) := dt
       obtain ⟨ad270, e270, hx270_0⟩ := Kd.at_int HR0.out x7_1 p270 q270
       cases e270
       replace p270 := eq_true p270
       replace q270 := eq_true q270
       go_wp2
       go_ret
       exact ⟨by first | rfl | (simp; done) | (simp [*]; done), by repeat (first | exact Drawn0.refl _ | apply Drawn0.step)⟩
      ·rw [if_neg c5] at H
       have c5b0 := decide_eq_false c5
       clear c5
       have H' := Aside0.mk H
       clear H
       have p270 : 0 ≤ (x7_1 : Int) := dt
       have q270 : x7_1 < (l0.length : Int) := dt
       obtain ⟨ad270, e270, hx270_0⟩ := Kd.at_int HR0.out x7_1 p270 q270
       cases e270
       replace p270 := eq_true p270
       replace q270 := eq_true q270
       go_wp2
       go_roundg k1
       case measure => have := HK1.out; omega
       case rel => exact ⟨(wrap64 (x7_1 + 1)), rq, H', ⟨by have := HK1.out; omega⟩, by repeat (first | exact Drawn0.refl _ | apply Drawn0.step)⟩
     ·rw [if_neg c4] at H
      exact absurd H (by simp)
    ·rw [if_neg c3] at H
     exact absurd H (by simp)
   ·rw [if_neg c2] at H
    have c2b0 := decide_eq_false c2
    clear c2
    obtain rfl := Option.some.inj H
    go_wp2
    go_ret
    exact ⟨by first | rfl | (simp; done) | (simp [*]; done), by repeat (first | exact Drawn0.refl _ | apply Drawn0.step)⟩

/-! ### incunablelaw06_isRow: function 17 -/
def incunablelaw06_isRow.f (k : Nat) (l0 : List Int) : Option (Bool) := if (l0.length : Int) ≤ 200 then ((incunableref06_IsRow.f k l0).bind fun t271 => (some t271)) else (some false)
theorem incunablelaw06_isRow.mono : ∀ a0 k, LeO (incunablelaw06_isRow.f k a0) (incunablelaw06_isRow.f (k + 1) a0) := by
 intro a0 k
 unfold incunablelaw06_isRow.f
 repeat' first
   | (with_reducible exact incunableref06_IsRow.mono _ _)
   | (with_reducible first | exact LeO.refl _ | exact LeO.none _ | refine LeO.ite ?_ ?_ | refine LeO.bind ?_ (fun _ => ?_))
   | exact incunableref06_IsRow.mono _ _
   | exact LeO.none _ | refine LeO.ite ?_ ?_ | refine LeO.bind ?_ (fun _ => ?_)
set_option maxHeartbeats 8000000 in
set_option maxRecDepth 100000 in
theorem incunablelaw06_isRow.calls (k : Nat) (A0 : Option Addr) (c0 : Nat) (l0 : List Int) (r : Bool) (w : World) (hr0 : Kd.C (Kd.int .u8) w A0 l0.length l0) (hc0 : l0.length ≤ c0) (h : incunablelaw06_isRow.f k l0 = some r) :
  Calls Tryd.prog 17 #[.slice A0 l0.length c0] w fun e w' => e = .returned (.bool r) ∧ Drawn0 w w' := by
 have HR0 := Aside0.mk hr0
 have HC0 := Aside0.mk hc0
 clear hr0 hc0
 have H : (if (l0.length : Int) ≤ 200 then ((incunableref06_IsRow.f k l0).bind fun t271 => (some t271)) else (some false)) = some r := h
 clear h
 by_cases c2 : (l0.length : Int) ≤ 200
 ·rw [if_pos c2] at H
  have c2b0 := decide_eq_true c2
  have c2b1 : decide (l0.length ≤ 200) = true := decide_eq_true (by omega)
  clear c2
  replace H := Option.bind_eq_some_iff.mp H
  obtain ⟨t271, A30, H⟩ := H
  replace H : (some t271) = some r := H
  have A3 := Aside0.mk A30
  clear A30
  obtain rfl := Option.some.inj H
  go_enter Tryd.func17, Tryd.ntmps17
  go_wp2_with (first | (go_at_call 43; (with_reducible refine (incunableref06_IsRow.calls k _ _ l0 t271 _ ?side1 ?side2 A3.out).mono ?_); (case side1 => exact cU HR0.out); (case side2 => exact HC0.out); rintro e w' ⟨rfl, ⟨nd, rfl⟩⟩))
  go_ret
  exact ⟨by first | rfl | (simp; done) | (simp [*]; done), by repeat (first | exact Drawn0.refl _ | apply Drawn0.step)⟩
 ·rw [if_neg c2] at H
  have c2b0 := decide_eq_false c2
  have c2b1 : decide (l0.length ≤ 200) = false := decide_eq_false (by omega)
  clear c2
  obtain rfl := Option.some.inj H
  go_enter Tryd.func17, Tryd.ntmps17
  go_wp2
  go_ret
  exact ⟨by first | rfl | (simp; done) | (simp [*]; done), by repeat (first | exact Drawn0.refl _ | apply Drawn0.step)⟩

/-! ### bits_Mul32: function 92 -/
def bits_Mul32.f (a0 : Int) (a1 : Int) : Option (Int × Int) := some (((IntKind.u64.wrap ((IntKind.u64.wrap (a0)) * (IntKind.u64.wrap (a1)))) / 4294967296) % 4294967296, (IntKind.u64.wrap ((IntKind.u64.wrap (a0)) * (IntKind.u64.wrap (a1)))) % 4294967296)
set_option maxHeartbeats 8000000 in
set_option maxRecDepth 100000 in
theorem bits_Mul32.calls (a0 : Int) (a1 : Int) (r1 : Int) (r2 : Int) (w : World) (h : bits_Mul32.f a0 a1 = some (r1, r2)) :
  Calls Tryd.prog 92 #[.int .u32 a0, .int .u32 a1] w fun e w' => e = .returned (.tuple #[.int .u32 r1, .int .u32 r2]) ∧ Drawn0 w w' := by
 have H : (some (((IntKind.u64.wrap ((IntKind.u64.wrap (a0)) * (IntKind.u64.wrap (a1)))) / 4294967296) % 4294967296, (IntKind.u64.wrap ((IntKind.u64.wrap (a0)) * (IntKind.u64.wrap (a1)))) % 4294967296)) = some (r1, r2) := h
 clear h
 simp only [Option.some.injEq, Prod.mk.injEq] at H
 obtain ⟨rfl, rfl⟩ := H
 go_enter Tryd.func92, Tryd.ntmps92
 go_wp2
 go_ret2
 exact ⟨by first | rfl | (simp; done) | (simp [*]; done), by repeat (first | exact Drawn0.refl _ | apply Drawn0.step)⟩

/-! ### bits_Mul64: function 93 -/
def bits_Mul64.f (a0 : Int) (a1 : Int) : Option (Int × Int) := some (IntKind.u64.wrap ((IntKind.u64.wrap ((IntKind.u64.wrap ((a0 / 4294967296) * (a1 / 4294967296))) + ((IntKind.u64.wrap ((IntKind.u64.wrap ((a0 / 4294967296) * (Go.bits .and .u64 a1 4294967295))) + ((IntKind.u64.wrap ((Go.bits .and .u64 a0 4294967295) * (Go.bits .and .u64 a1 4294967295))) / 4294967296))) / 4294967296))) + ((IntKind.u64.wrap ((Go.bits .and .u64 (IntKind.u64.wrap ((IntKind.u64.wrap ((a0 / 4294967296) * (Go.bits .and .u64 a1 4294967295))) + ((IntKind.u64.wrap ((Go.bits .and .u64 a0 4294967295) * (Go.bits .and .u64 a1 4294967295))) / 4294967296))) 4294967295) + (IntKind.u64.wrap ((Go.bits .and .u64 a0 4294967295) * (a1 / 4294967296))))) / 4294967296)), IntKind.u64.wrap (a0 * a1))
set_option maxHeartbeats 8000000 in
set_option maxRecDepth 100000 in
theorem bits_Mul64.calls (a0 : Int) (a1 : Int) (r1 : Int) (r2 : Int) (w : World) (h : bits_Mul64.f a0 a1 = some (r1, r2)) :
  Calls Tryd.prog 93 #[.int .u64 a0, .int .u64 a1] w fun e w' => e = .returned (.tuple #[.int .u64 r1, .int .u64 r2]) ∧ Drawn0 w w' := by
 have H : (some (IntKind.u64.wrap ((IntKind.u64.wrap ((IntKind.u64.wrap ((a0 / 4294967296) * (a1 / 4294967296))) + ((IntKind.u64.wrap ((IntKind.u64.wrap ((a0 / 4294967296) * (Go.bits .and .u64 a1 4294967295))) + ((IntKind.u64.wrap ((Go.bits .and .u64 a0 4294967295) * (Go.bits .and .u64 a1 4294967295))) / 4294967296))) / 4294967296))) + ((IntKind.u64.wrap ((Go.bits .and .u64 (IntKind.u64.wrap ((IntKind.u64.wrap ((a0 / 4294967296) * (Go.bits .and .u64 a1 4294967295))) + ((IntKind.u64.wrap ((Go.bits .and .u64 a0 4294967295) * (Go.bits .and .u64 a1 4294967295))) / 4294967296))) 4294967295) + (IntKind.u64.wrap ((Go.bits .and .u64 a0 4294967295) * (a1 / 4294967296))))) / 4294967296)), IntKind.u64.wrap (a0 * a1))) = some (r1, r2) := h
 clear h
 simp only [Option.some.injEq, Prod.mk.injEq] at H
 obtain ⟨rfl, rfl⟩ := H
 go_enter Tryd.func93, Tryd.ntmps93
 go_wp2
 go_ret2
 exact ⟨by first | rfl | (simp; done) | (simp [*]; done), by repeat (first | exact Drawn0.refl _ | apply Drawn0.step)⟩

/-! ### bits_Mul: function 74 -/
def bits_Mul.f (a0 : Int) (a1 : Int) : Option (Int × Int) := (bits_Mul64.f a0 a1).bind fun bt272 => (some (bt272.1, bt272.2))
set_option maxHeartbeats 8000000 in
set_option maxRecDepth 100000 in
theorem bits_Mul.calls (a0 : Int) (a1 : Int) (r1 : Int) (r2 : Int) (w : World) (h : bits_Mul.f a0 a1 = some (r1, r2)) :
  Calls Tryd.prog 74 #[.int .u64 a0, .int .u64 a1] w fun e w' => e = .returned (.tuple #[.int .u64 r1, .int .u64 r2]) ∧ Drawn0 w w' := by
 have H : ((bits_Mul64.f a0 a1).bind fun bt272 => (some (bt272.1, bt272.2))) = some (r1, r2) := h
 clear h
 replace H := Option.bind_eq_some_iff.mp H
 obtain ⟨⟨t272, t273⟩, A30, H⟩ := H
 replace H : (some (t272, t273)) = some (r1, r2) := H
 have A3 := Aside0.mk A30
 clear A30
 simp only [Option.some.injEq, Prod.mk.injEq] at H
 obtain ⟨rfl, rfl⟩ := H
 go_enter Tryd.func74, Tryd.ntmps74
 go_wp2_with (first | ((with_reducible refine gf 93 rfl ?_); refine gL (some 25) rfl rfl Tryd.func93 rfl #[.int .u64 a0, .int .u64 a1] rfl ?_; (with_reducible refine (bits_Mul64.calls a0 a1 t272 t273 _ A3.out).mono ?_); rintro e w' ⟨rfl, ⟨nd, rfl⟩⟩; refine ⟨_, rfl, ?_⟩))
 go_ret2
 exact ⟨by first | rfl | (simp; done) | (simp [*]; done), by repeat (first | exact Drawn0.refl _ | apply Drawn0.step)⟩

/-! ### slices_Repeat_byte_byte: function 45 -/
mutual
def slices_Repeat_byte_byte.j0 : Nat → List Int → Int → Bool → Option (List Int)
 | 0, _, _, _ => none
 | k + 1, x0, x6, x26 => if x26 = true then (none) else (if 0 ≤ (wrap64 (x6)) then (if (wrap64 (x6) : Int).toNat ≤ 281474976710656 then ((some (List.replicate (wrap64 (x6) : Int).toNat 0 : List Int)).bind fun y276 => (slices_Repeat_byte_byte.l0 k (cpy y276 0 y276.length x0) ((min x0.length y276.length : Nat) : Int))) else (none)) else (none))
def slices_Repeat_byte_byte.l0 : Nat → List Int → Int → Option (List Int)
 | 0, _, _ => none
 | k + 1, x7, x8 => if x8 < (x7.length : Int) then (if 0 ≤ x8 then (if x8 ≤ (x7.length : Int) then ((some (x7.drop (x8 : Int).toNat : List Int)).bind fun y280 => ((some (x7.take (x8 : Int).toNat : List Int)).bind fun y284 => (slices_Repeat_byte_byte.l0 k (cpy x7 ((x8 : Int).toNat) y280.length y284) (wrap64 (x8 + ((min y284.length y280.length : Nat) : Int)))))) else (none)) else (none)) else (some x7)
end
def slices_Repeat_byte_byte.f (k : Nat) (l0 : List Int) (a1 : Int) : Option (List Int) := if a1 < 0 then (none) else ((bits_Mul.f (IntKind.u64.wrap ((l0.length : Int))) (IntKind.u64.wrap (a1))).bind fun bt274 => (if bt274.1 > 0 then (slices_Repeat_byte_byte.j0 k l0 bt274.2 true) else (slices_Repeat_byte_byte.j0 k l0 bt274.2 (decide (bt274.2 > 9223372036854775807)))))
theorem slices_Repeat_byte_byte.mono_l : ∀ k, (∀ y0 y1 y2, LeO (slices_Repeat_byte_byte.j0 k y0 y1 y2) (slices_Repeat_byte_byte.j0 (k + 1) y0 y1 y2)) ∧ (∀ y0 y1, LeO (slices_Repeat_byte_byte.l0 k y0 y1) (slices_Repeat_byte_byte.l0 (k + 1) y0 y1))
 | 0 => ⟨fun _ _ _ r h => by simp [slices_Repeat_byte_byte.j0] at h, fun _ _ r h => by simp [slices_Repeat_byte_byte.l0] at h⟩
 | k + 1 => by
  obtain ⟨ih0, ih1⟩ := slices_Repeat_byte_byte.mono_l k
  refine ⟨?_, ?_⟩
  ·intro y0 y1 y2
   unfold slices_Repeat_byte_byte.j0
   repeat' first
   | (with_reducible exact ih0 _ _ _)
   | (with_reducible exact ih1 _ _)
   | (with_reducible first | exact LeO.refl _ | exact LeO.none _ | refine LeO.ite ?_ ?_ | refine LeO.bind ?_ (fun _ => ?_))
   | exact ih0 _ _ _
   | exact ih1 _ _
   | exact LeO.none _ | refine LeO.ite ?_ ?_ | refine LeO.bind ?_ (fun _ => ?_)
  ·intro y0 y1
   unfold slices_Repeat_byte_byte.l0
   repeat' first
   | (with_reducible exact ih0 _ _ _)
   | (with_reducible exact ih1 _ _)
   | (with_reducible first | exact LeO.refl _ | exact LeO.none _ | refine LeO.ite ?_ ?_ | refine LeO.bind ?_ (fun _ => ?_))
   | exact ih0 _ _ _
   | exact ih1 _ _
   | exact LeO.none _ | refine LeO.ite ?_ ?_ | refine LeO.bind ?_ (fun _ => ?_)
theorem slices_Repeat_byte_byte.mono : ∀ a0 a1 k, LeO (slices_Repeat_byte_byte.f k a0 a1) (slices_Repeat_byte_byte.f (k + 1) a0 a1) := by
 intro a0 a1 k
 obtain ⟨ih0, ih1⟩ := slices_Repeat_byte_byte.mono_l k
 unfold slices_Repeat_byte_byte.f
 repeat' first
   | (with_reducible exact ih0 _ _ _)
   | (with_reducible exact ih1 _ _)
   | (with_reducible first | exact LeO.refl _ | exact LeO.none _ | refine LeO.ite ?_ ?_ | refine LeO.bind ?_ (fun _ => ?_))
   | exact ih0 _ _ _
   | exact ih1 _ _
   | exact LeO.none _ | refine LeO.ite ?_ ?_ | refine LeO.bind ?_ (fun _ => ?_)
def slices_Repeat_byte_byte.T9 : Bool × List (List Nat × List Nat) := (true, [([], []), ([], []), ([], []), ([1, 2], [1, 2]), ([], []), ([], []), ([4, 5], [4, 5]), ([3, 6], [3, 6]), ([0, 7], [0, 7]), ([8, 7, 0, 1, 2, 3, 4, 5, 6, 7, 8], [0, 2, 5, 8])])
def slices_Repeat_byte_byte.B9 : List Nat := [0, 0, 0, 6, 0, 0, 48, 126, 255, 511]
theorem slices_Repeat_byte_byte.tab9 : rtab .any (opsOf Tryd.f45 9) = slices_Repeat_byte_byte.T9 := by kernel_rfl
theorem slices_Repeat_byte_byte.bits9 : waitsOk slices_Repeat_byte_byte.T9.2 slices_Repeat_byte_byte.B9 = true := by kernel_rfl
set_option maxHeartbeats 8000000 in
set_option maxRecDepth 100000 in
theorem slices_Repeat_byte_byte.calls (k : Nat) (A0 : Option Addr) (c0 : Nat) (l0 : List Int) (a1 : Int) (r : List Int) (w : World) (hr0 : Kd.C (Kd.int .u8) w A0 l0.length l0) (hc0 : l0.length ≤ c0) (h : slices_Repeat_byte_byte.f k l0 a1 = some r) :
  Calls Tryd.prog 45 #[.slice A0 l0.length c0, .int .i64 a1] w fun e w' => ∃ v0_ : Value, e = .returned (v0_) ∧ Kd.R (Kd.int .u8) 5 w' w.heap.size (fun _ => True) v0_ r ∧ Below w.heap.size w w' := by
 have HR0 := Aside0.mk hr0
 have HC0 := Aside0.mk hc0
 clear hr0 hc0
 have HB := Aside0.mk (Below.refl w.heap.size w)
 have H : (if a1 < 0 then (none) else ((bits_Mul.f (IntKind.u64.wrap ((l0.length : Int))) (IntKind.u64.wrap (a1))).bind fun bt274 => (if bt274.1 > 0 then (slices_Repeat_byte_byte.j0 k l0 bt274.2 true) else (slices_Repeat_byte_byte.j0 k l0 bt274.2 (decide (bt274.2 > 9223372036854775807)))))) = some r := h
 clear h
 by_cases c3 : a1 < 0
 ·rw [if_pos c3] at H
  exact absurd H (by simp)
 ·rw [if_neg c3] at H
  have c3b0 := decide_eq_false c3
  clear c3
  replace H := Option.bind_eq_some_iff.mp H
  obtain ⟨⟨t274, t275⟩, A40, H⟩ := H
  replace H : (if t274 > 0 then (slices_Repeat_byte_byte.j0 k l0 t275 true) else (slices_Repeat_byte_byte.j0 k l0 t275 (decide (t275 > 9223372036854775807)))) = some r := H
  have A4 := Aside0.mk A40
  clear A40
  have HC5 := Aside0.mk H
  clear H
  go_enter Tryd.func45, Tryd.ntmps45
  go_upto_region 4 with (first | ((with_reducible refine gf 74 rfl ?_); refine gL (some 18) rfl rfl Tryd.func74 rfl #[.int .u64 (IntKind.u64.wrap ((l0.length : Int))), .int .u64 (IntKind.u64.wrap (a1))] rfl ?_; (with_reducible refine (bits_Mul.calls (IntKind.u64.wrap ((l0.length : Int))) (IntKind.u64.wrap (a1)) t274 t275 _ A4.out).mono ?_); rintro e w' ⟨rfl, ⟨nd, rfl⟩⟩; refine ⟨_, rfl, ?_⟩))
  (try simp only [Act.put, List.setIfInBounds_toArray, List.set_cons_zero, List.set_cons_succ])
  go_cut [26] (fun v26 wc => ∃ (kq : Nat) (x26_4 : Bool), v26 = .bool x26_4 ∧ Aside0 (slices_Repeat_byte_byte.j0 kq l0 t275 x26_4 = some r) ∧ Aside0 (kq ≤ k) ∧ Aside0 (Below w.heap.size w wc))
  case first =>
   have H := HC5.out
   clear HC5
   by_cases c6 : t274 > 0
   ·rw [if_pos c6] at H
    have c6b0 := decide_eq_true c6
    clear c6
    (first | rw [c6b0] | (simp only [i64_w, i32_w]; rw [c6b0]) | skip)
    have H' := Aside0.mk H
    clear H
    go_wp2
    go_meet
    case rel => exact ⟨_, (true), rq, H', ⟨by first | omega | exact Nat.le_refl _⟩, ⟨bl⟩⟩
   ·rw [if_neg c6] at H
    have c6b0 := decide_eq_false c6
    clear c6
    (first | rw [c6b0] | (simp only [i64_w, i32_w]; rw [c6b0]) | skip)
    have H' := Aside0.mk H
    clear H
    go_wp2
    go_meet
    case rel => exact ⟨_, (decide (t275 > 9223372036854775807)), rq, H', ⟨by first | omega | exact Nat.le_refl _⟩, ⟨bl⟩⟩
  case rest =>
   clear HC5
   obtain ⟨kq, x26_4, rfl, HA, HJ4, HB⟩ := hcut
   cases kq with
   | zero => exact absurd HA.out (by simp [slices_Repeat_byte_byte.j0])
   | succ kj4 =>
    have H := HA.out
    clear HA
    simp only [slices_Repeat_byte_byte.j0] at H
    by_cases c7 : x26_4 = true
    ·subst c7
     have H1 : (none) = some r := by rw [if_pos rfl] at H; exact H
     clear H
     have H := H1
     clear H1
     exact absurd H (by simp)
    ·replace c7 := Bool.eq_false_iff.mpr c7
     subst c7
     have H1 : (if 0 ≤ (wrap64 (t275)) then (if (wrap64 (t275) : Int).toNat ≤ 281474976710656 then ((some (List.replicate (wrap64 (t275) : Int).toNat 0 : List Int)).bind fun y276 => (slices_Repeat_byte_byte.l0 kj4 (cpy y276 0 y276.length l0) ((min l0.length y276.length : Nat) : Int))) else (none)) else (none)) = some r := by rw [if_neg (show ¬ (false = true) by decide)] at H; exact H
     clear H
     have H := H1
     clear H1
     obtain ⟨ji8, hji8⟩ : ∃ j_ : Int, (wrap64 (t275)) = j_ := ⟨_, rfl⟩
     replace H : (if 0 ≤ (ji8) then (if (ji8 : Int).toNat ≤ 281474976710656 then ((some (List.replicate (ji8 : Int).toNat 0 : List Int)).bind fun y276 => (slices_Repeat_byte_byte.l0 kj4 (cpy y276 0 y276.length l0) ((min l0.length y276.length : Nat) : Int))) else (none)) else (none)) = some r := by first | (rw [hji8] at H; exact H) | (simp only [hji8] at H ⊢; exact H)
     have hji8w : (IntKind.i64.wrap (t275)) = ji8 := (i64_w _).trans hji8
     by_cases c9 : 0 ≤ (ji8)
     ·rw [if_pos c9] at H
      have c9b0 := eq_true c9
      have c9b1 := decide_eq_true c9
      clear c9
      by_cases c10 : (ji8 : Int).toNat ≤ 281474976710656
      ·rw [if_pos c10] at H
       have c10b0 := eq_true c10
       have c10b1 := decide_eq_true c10
       clear c10
       obtain ⟨y276, hy_⟩ : ∃ y_ : List Int, y_ = (List.replicate (ji8 : Int).toNat 0) := ⟨_, rfl⟩
       replace H : (slices_Repeat_byte_byte.l0 kj4 (cpy y276 0 y276.length l0) ((min l0.length y276.length : Nat) : Int)) = some r := rh
       have Ny276 := aE hy_
       clear hy_
       obtain ⟨y279, hy_⟩ : ∃ y_ : List Int, y_ = (cpy y276 0 y276.length l0) := ⟨_, rfl⟩
       replace H : (slices_Repeat_byte_byte.l0 kj4 y279 ((min l0.length y276.length : Nat) : Int)) = some r := rh
       have Ny279 := aE hy_
       clear hy_
       have H' := Aside0.mk H
       clear H
       (try apply_assumption)
       go_wp2_with (first | ((with_reducible refine gd 30 rfl ?_); refine Kd.R_make (Kd.int .u8) _ 5 rfl (N := 30) rfl 22 _ _ rfl ji8 rfl rfl Tryd.underlying22 (.int .u8 0) 1 info5 rfl (by decide) (by omega) 0 (ok := fun _ => True) (okp := fun _ => True) rfl (fun _ hk => hk) trivial (dt) (Nat.le_trans (Nat.mul_le_mul_right _ (dt : ji8.toNat ≤ 281474976710656)) (by omega)) (Below.refl _ _) (Nat.le_refl _) ?_; intro v277 w11 ho12 hb hg_ hnew_; clear hg_ hnew_; (first | rw [← Ny276.out] at ho12 | (simp only [Int.reduceToNat] at ho12; rw [← Ny276.out] at ho12)); have n_ := aC (Kd.R_lower ho12 bz) (aE (bs hb)); clear HB; obtain ⟨HO278, HB⟩ := n_; clear hb ho12; obtain ⟨Ao13, co13, eo13⟩ := Kd.R_slice HO278.out; subst eo13) | ((with_reducible refine gate_builtin (b := .copy) (xs := #[.tmp 31, .tmp 32]) rfl ?_); skip; have hk_ : 0 + y276.length ≤ y276.length := (by first | omega | (have h_ := (Kd.R_reads' (HO278.out)).1; omega)); refine Kd.R_copyin 0 (w0 := w) w.heap.size rfl (.tmp 31) (.tmp 32) 22 22 5 rfl Tryd.underlying22 (by kernel_rfl) (n := y276.length) (c := co13) (k := 0) (A0 := Ao13) (xs := y276) (ys := l0) rfl rfl ?hA (rU HO278.out) ?aR hk_ bl bz ?_; (case hA => exact (by first | rfl | (rw [if_pos rfl]) | (split <;> simp; done) | (split <;> simp [Go.Addr.add]))); (case aR => repeat (first | exact (Kd.C_below HR0.out HB.out) | (with_reducible refine Kd.C_alloc ?_ _) | (with_reducible refine Kd.C_drewN ?_ _) | (with_reducible refine Kd.C_drew ?_))); intro w14 ho hb hg; clear hk_; rw [← Ny279.out] at ho; have n_ := aC ho (aE hb); clear HO278 HB; obtain ⟨HO278, HB⟩ := n_; clear ho hb hg))
       go_loopg [8] kj4 (fun kq v8 w' => ∃ (x7_2 : List Int) (x8_2 : Int), v8 = .int .i64 x8_2 ∧ Aside0 (slices_Repeat_byte_byte.l0 kq x7_2 x8_2 = some r) ∧ Aside0 (kq ≤ kj4) ∧ Aside0 (Kd.R (Kd.int .u8) 5 w' w.heap.size (fun _ => True) (.slice Ao13 y276.length co13) x7_2) ∧ Aside0 (Below w.heap.size w w'))
       case atStart => exact ⟨(y279), (((min l0.length y276.length : Nat) : Int)), rq, H', ⟨Nat.le_refl _⟩, ⟨rU HO278.out⟩, ⟨bl⟩⟩
       case round =>
        clear H'
        obtain ⟨x7_2, x8_2, rfl, HA, HK2, HO_7, HB⟩ := hrel
        have hl7_2 := (Kd.R_reads' HO_7.out).1
        rw [hl7_2] at HO_7
        (try simp only [hl7_2])
        cases gk with
        | zero => exact absurd HA.out (by simp [slices_Repeat_byte_byte.l0])
        | succ k2 =>
         have H := HA.out
         clear HA
         simp only [slices_Repeat_byte_byte.l0] at H
         by_cases c15 : x8_2 < (x7_2.length : Int)
         ·rw [if_pos c15] at H
          have c15b0 := decide_eq_true c15
          (try (have c15b0_hl7_2 := c15b0; simp only [hl7_2] at c15b0_hl7_2))
          clear c15
          by_cases c16 : 0 ≤ x8_2
          ·rw [if_pos c16] at H
           have c16b0 := eq_true c16
           have c16b1 := decide_eq_true c16
           clear c16
           by_cases c17 : x8_2 ≤ (x7_2.length : Int)
           ·rw [if_pos c17] at H
            have c17b0 := eq_true c17
            have c17b1 := decide_eq_true c17
            (try (have c17b1_hl7_2 := c17b1; simp only [hl7_2] at c17b1_hl7_2))
            clear c17
            obtain ⟨y280, hy_⟩ : ∃ y_ : List Int, y_ = (x7_2.drop (x8_2 : Int).toNat) := ⟨_, rfl⟩
            replace H : ((some (x7_2.take (x8_2 : Int).toNat : List Int)).bind fun y284 => (slices_Repeat_byte_byte.l0 k2 (cpy x7_2 ((x8_2 : Int).toNat) y280.length y284) (wrap64 (x8_2 + ((min y284.length y280.length : Nat) : Int))))) = some r := rh
            have Ny280 := aE hy_
            clear hy_
            have c18b0 := eq_true (dt : 0 ≤ x8_2)
            have c19b0 := eq_true (dt : x8_2 ≤ (x7_2.length : Int))
            obtain ⟨y284, hy_⟩ : ∃ y_ : List Int, y_ = (x7_2.take (x8_2 : Int).toNat) := ⟨_, rfl⟩
            replace H : (slices_Repeat_byte_byte.l0 k2 (cpy x7_2 ((x8_2 : Int).toNat) y280.length y284) (wrap64 (x8_2 + ((min y284.length y280.length : Nat) : Int)))) = some r := rh
            have Ny284 := aE hy_
            clear hy_
            obtain ⟨y288, hy_⟩ : ∃ y_ : List Int, y_ = (cpy x7_2 ((x8_2 : Int).toNat) y280.length y284) := ⟨_, rfl⟩
            replace H : (slices_Repeat_byte_byte.l0 k2 y288 (wrap64 (x8_2 + ((min y284.length y280.length : Nat) : Int)))) = some r := rh
            have Ny288 := aE hy_
            clear hy_
            have H' := Aside0.mk H
            clear H
            try go_wp2
            have n_ := aC (Kd.R_drew HO_7.out) (aE (below_drew1 HB.out))
            clear HO_7 HB
            obtain ⟨HO_7, HB⟩ := n_
            have q21 : (x8_2 : Int) ≤ ((x7_2.length : Int) : Int) := dt
            obtain ⟨i021, hi021, _, hsz21, _⟩ := info_parts info5
            have hroom21 : x7_2.length ≤ co13 := (Kd.R_reads' HO_7.out).2.1
            have hC21 : Kd.C (Kd.int .u8) _ Ao13 x7_2.length x7_2 := (Kd.R_reads' HO_7.out).2.2
            have q021 : (0 : Int) ≤ (x8_2 : Int) := dt
            have hcut21 := cut_from (P := Tryd.prog) 22 5 .i64 Tryd.underlying22 hi021 1 hsz21 Ao13 x7_2.length co13 x8_2 q021 q21
            have hr21 := Kd.C_drop (m := (x8_2 : Int).toNat) (c := co13) hC21 (by omega) hroom21
            obtain ⟨A21, hA21⟩ : ∃ A1, A1 = (if co13 = (x8_2 : Int).toNat then Ao13 else (Ao13 : Option Addr).map (·.add ((x8_2 : Int).toNat * 1))) := ⟨_, rfl⟩
            obtain ⟨c21, hc21⟩ : ∃ c1, c1 = co13 - (x8_2 : Int).toNat := ⟨_, rfl⟩
            have hy21 : y280.length = x7_2.length - (x8_2 : Int).toNat := (by rw [Ny280.out, List.length_drop] <;> omega)
            rw [show (x7_2).drop (x8_2 : Int).toNat = y280 from Ny280.out.symm] at hr21
            replace hr21 : Kd.C (Kd.int .u8) _ A21 y280.length y280 := (by rw [hA21]; exact hr21)
            rw [← hy21, ← hA21, ← hc21] at hcut21
            have HR283 := Aside0.mk hr21
            have HC283 := Aside0.mk (show y280.length ≤ c21 from by rw [hy21, hc21]; exact Nat.sub_le_sub_right hroom21 _)
            clear hr21 hC21 hroom21 hi021 hsz21 hc21
            have KY21 := Aside0.mk hy21
            have KA21 := Aside0.mk hA21
            clear hy21 hA21
            have KL21 := Aside0.mk (show (x8_2 : Int).toNat ≤ x7_2.length from by omega)
            replace q21 := eq_true q21
            have q22 : (x8_2 : Int) ≤ ((x7_2.length : Int) : Int) := dt
            obtain ⟨i022, hi022, _, hsz22, _⟩ := info_parts info5
            have hroom22 : x7_2.length ≤ co13 := (Kd.R_reads' HO_7.out).2.1
            have hC22 : Kd.C (Kd.int .u8) _ Ao13 x7_2.length x7_2 := (Kd.R_reads' HO_7.out).2.2
            have hcut22 := cut_to (P := Tryd.prog) 22 5 .i64 Tryd.underlying22 hi022 Ao13 x7_2.length co13 x8_2 (dt) q22 hroom22
            have hr22 := Kd.C_take (m := (x8_2 : Int).toNat) hC22 (by omega)
            have hy22 : y284.length = (x8_2 : Int).toNat := (by rw [Ny284.out, List.length_take]; omega)
            rw [← Ny284.out] at hr22
            rw [← hy22] at hcut22
            have HR287 := Aside0.mk hr22
            have HC287 := Aside0.mk (show y284.length ≤ co13 from by omega)
            clear hr22 hC22 hroom22 hi022 hsz22
            have KY22 := Aside0.mk hy22
            clear hy22
            have KL22 := Aside0.mk (show (x8_2 : Int).toNat ≤ x7_2.length from by omega)
            replace q22 := eq_true q22
            refine start_ (n := 10) (S := fun w' => True) (ds := []) #[false, false, false, false, false, false, false, false, false, false] (by kernel_rfl) rfl rfl trivial (fun hHeld => ?_); refine with_tabW slices_Repeat_byte_byte.tab9 slices_Repeat_byte_byte.bits9 (fun HT_ HW_ => ?_)
            generalize wr.drew = w20 at HO_7 HB HR283 HR287 hHeld ⊢
            refine pu 0 38 (bv 10 1) HT_ rfl rfl ?_
            refine pu 1 39 (bv 10 3) HT_ rfl rfl ?_
            refine pu 2 40 (bv 10 7) HT_ rfl rfl ?_
            refine pu 3 41 (bv 10 15) HT_ rfl rfl ?_
            refine pu 4 42 (bv 10 31) HT_ rfl rfl ?_
            refine pu 5 43 (bv 10 63) HT_ rfl rfl ?_
            refine pu 6 44 (bv 10 127) HT_ rfl rfl ?_
            refine one_ (i := 7) (N := some 45) (bv 10 255) rfl rfl (one_of HT_.out (by kernel_rfl)) (by decide) (fun K hK => ?_)
            skip
            have hk_ : (x8_2 : Int).toNat + y280.length ≤ x7_2.length := (by have h_ := KY21.out; have h2_ := KL21.out; omega)
            refine Kd.R_copyin_step 0 (w0 := w) w.heap.size (by rfl) (.tmp 41) (.tmp 44) 22 22 5 rfl Tryd.underlying22 (by kernel_rfl) (n := x7_2.length) (c := co13) (k := (x8_2 : Int).toNat) (A0 := Ao13) (xs := x7_2) (ys := y284) rfl rfl ?hA (rU HO_7.out) ?aR hk_ bl bz ?_
            (case hA => exact KA21.out)
            (case aR => repeat (first | exact (by repeat (first | (with_reducible exact HR287.out) | (with_reducible refine Kd.C_alloc ?_ _) | (with_reducible refine Kd.C_drewN ?_ _) | (with_reducible refine Kd.C_drew ?_) | exact HR287.out)) | (with_reducible refine Kd.C_alloc ?_ _) | (with_reducible refine Kd.C_drewN ?_ _) | (with_reducible refine Kd.C_drew ?_)))
            intro w23 ho hb hg
            clear hk_
            rw [← Ny288.out] at ho
            have n_ := aC ho (aE hb)
            clear HO_7 HB
            obtain ⟨HO_7, HB⟩ := n_
            clear ho hb hg
            refine hK.out _ _ trivial (fun hHeld => ?_)
            clear hK K
            refine nm (some 45) ?_
            refine pu 8 46 (bv 10 511) HT_ rfl rfl ?_
            refine pu 9 8 (bv 10 1023) HT_ rfl rfl ?_
            refine done_ (done_of HT_.out (by kernel_rfl)) ?_
            try go_wp2
            (try simp only [← hl7_2])
            go_roundg k2
            case measure => have := HJ4.out; have := HK2.out; omega
            case rel => exact ⟨(y288), (wrap64 (x8_2 + ((min y284.length y280.length : Nat) : Int))), rq, H', ⟨by have := HJ4.out; have := HK2.out; omega⟩, ⟨by (try simp only [hl7_2]); (with_reducible repeat (first | apply Kd.R_alloc | apply Kd.R_drewN | apply Kd.R_drew)); exact HO_7.out⟩, ⟨bl⟩⟩
           ·rw [if_neg c17] at H
            exact absurd H (by simp)
          ·rw [if_neg c16] at H
           exact absurd H (by simp)
         ·rw [if_neg c15] at H
          have c15b0 := decide_eq_false c15
          (try (have c15b0_hl7_2 := c15b0; simp only [hl7_2] at c15b0_hl7_2))
          clear c15
          obtain rfl := Option.some.inj H
          go_wp2
          go_ret
          exact ⟨_, by first | rfl | (simp [errW_none, errW_some] <;> rfl) | (simp only [← hji8]; first | rfl | (simp [errW_none, errW_some] <;> rfl)) | (simp [*, errW_none, errW_some] <;> rfl), rU HO_7.out, bl⟩
      ·rw [if_neg c10] at H
       exact absurd H (by simp)
     ·rw [if_neg c9] at H
      exact absurd H (by simp)

end Go.Proofs.YtknclbodinfbeaaDoor.PRunsRow
