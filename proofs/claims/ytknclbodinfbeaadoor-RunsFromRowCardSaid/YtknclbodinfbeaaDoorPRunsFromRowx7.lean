-- Written by a program of this session (wip/tools/myprint.py) over the kit's print. Not trusted: Lean checks it.
import Derived.Test.YtknclbodinfbeaaDoorPRunsFromRowx0
namespace Go.Proofs.YtknclbodinfbeaaDoor.PRunsFromRow
open Go.RowKit Go.Proofs.YtknclbodinfbeaaDoorW.PrintWords Go.Proofs.YtknclbodinfbeaaDoorW.PrintLast Go.Proofs.YtknclbodinfbeaaDoorW.PrintMore
attribute [local go_sem] max2_int min2_int max_two min_two max_three min_three max_four min_four   -- for this text's walks alone
set_option linter.unusedVariables false
set_option linter.unusedSimpArgs false

/-! ### bits_Mul32: function 92 -/
def bits_Mul32.f (a0 : Int) (a1 : Int) : Option (Int × Int) := some (((IntKind.u64.wrap ((IntKind.u64.wrap (a0)) * (IntKind.u64.wrap (a1)))) / 4294967296) % 4294967296, (IntKind.u64.wrap ((IntKind.u64.wrap (a0)) * (IntKind.u64.wrap (a1)))) % 4294967296)
set_option maxHeartbeats 8000000 in
set_option maxRecDepth 100000 in
theorem bits_Mul32.calls (a0 : Int) (a1 : Int) (r1 : Int) (r2 : Int) (w : World) (h : bits_Mul32.f a0 a1 = some (r1, r2)) :
  Calls Tryd.prog 92 #[.int .u32 a0, .int .u32 a1] w fun e w' => e = .returned (.tuple #[.int .u32 r1, .int .u32 r2]) ∧ Drawn0 w w' := by
 have H : (some (((IntKind.u64.wrap ((IntKind.u64.wrap (a0)) * (IntKind.u64.wrap (a1)))) / 4294967296) % 4294967296, (IntKind.u64.wrap ((IntKind.u64.wrap (a0)) * (IntKind.u64.wrap (a1)))) % 4294967296)) = some (r1, r2) := h
 clear h
 simp only [Option.some.injEq, Prod.mk.injEq] at H
 obtain ⟨rfl, rfl⟩ := H
 go_enter Tryd.func92, Tryd.ntmps92
 go_wp2
 go_ret2
 exact ⟨by first | rfl | (simp; done) | (simp [*]; done), by repeat (first | exact Drawn0.refl _ | apply Drawn0.step)⟩

/-! ### bits_Mul64: function 93 -/
def bits_Mul64.f (a0 : Int) (a1 : Int) : Option (Int × Int) := some (IntKind.u64.wrap ((IntKind.u64.wrap ((IntKind.u64.wrap ((a0 / 4294967296) * (a1 / 4294967296))) + ((IntKind.u64.wrap ((IntKind.u64.wrap ((a0 / 4294967296) * (Go.bits .and .u64 a1 4294967295))) + ((IntKind.u64.wrap ((Go.bits .and .u64 a0 4294967295) * (Go.bits .and .u64 a1 4294967295))) / 4294967296))) / 4294967296))) + ((IntKind.u64.wrap ((Go.bits .and .u64 (IntKind.u64.wrap ((IntKind.u64.wrap ((a0 / 4294967296) * (Go.bits .and .u64 a1 4294967295))) + ((IntKind.u64.wrap ((Go.bits .and .u64 a0 4294967295) * (Go.bits .and .u64 a1 4294967295))) / 4294967296))) 4294967295) + (IntKind.u64.wrap ((Go.bits .and .u64 a0 4294967295) * (a1 / 4294967296))))) / 4294967296)), IntKind.u64.wrap (a0 * a1))
set_option maxHeartbeats 8000000 in
set_option maxRecDepth 100000 in
theorem bits_Mul64.calls (a0 : Int) (a1 : Int) (r1 : Int) (r2 : Int) (w : World) (h : bits_Mul64.f a0 a1 = some (r1, r2)) :
  Calls Tryd.prog 93 #[.int .u64 a0, .int .u64 a1] w fun e w' => e = .returned (.tuple #[.int .u64 r1, .int .u64 r2]) ∧ Drawn0 w w' := by
 have H : (some (IntKind.u64.wrap ((IntKind.u64.wrap ((IntKind.u64.wrap ((a0 / 4294967296) * (a1 / 4294967296))) + ((IntKind.u64.wrap ((IntKind.u64.wrap ((a0 / 4294967296) * (Go.bits .and .u64 a1 4294967295))) + ((IntKind.u64.wrap ((Go.bits .and .u64 a0 4294967295) * (Go.bits .and .u64 a1 4294967295))) / 4294967296))) / 4294967296))) + ((IntKind.u64.wrap ((Go.bits .and .u64 (IntKind.u64.wrap ((IntKind.u64.wrap ((a0 / 4294967296) * (Go.bits .and .u64 a1 4294967295))) + ((IntKind.u64.wrap ((Go.bits .and .u64 a0 4294967295) * (Go.bits .and .u64 a1 4294967295))) / 4294967296))) 4294967295) + (IntKind.u64.wrap ((Go.bits .and .u64 a0 4294967295) * (a1 / 4294967296))))) / 4294967296)), IntKind.u64.wrap (a0 * a1))) = some (r1, r2) := h
 clear h
 simp only [Option.some.injEq, Prod.mk.injEq] at H
 obtain ⟨rfl, rfl⟩ := H
 go_enter Tryd.func93, Tryd.ntmps93
 go_wp2
 go_ret2
 exact ⟨by first | rfl | (simp; done) | (simp [*]; done), by repeat (first | exact Drawn0.refl _ | apply Drawn0.step)⟩

/-! ### bits_Mul: function 74 -/
def bits_Mul.f (a0 : Int) (a1 : Int) : Option (Int × Int) := (bits_Mul64.f a0 a1).bind fun bt270 => (some (bt270.1, bt270.2))
set_option maxHeartbeats 8000000 in
set_option maxRecDepth 100000 in
theorem bits_Mul.calls (a0 : Int) (a1 : Int) (r1 : Int) (r2 : Int) (w : World) (h : bits_Mul.f a0 a1 = some (r1, r2)) :
  Calls Tryd.prog 74 #[.int .u64 a0, .int .u64 a1] w fun e w' => e = .returned (.tuple #[.int .u64 r1, .int .u64 r2]) ∧ Drawn0 w w' := by
 have H : ((bits_Mul64.f a0 a1).bind fun bt270 => (some (bt270.1, bt270.2))) = some (r1, r2) := h
 clear h
 replace H := Option.bind_eq_some_iff.mp H
 obtain ⟨⟨t270, t271⟩, A30, H⟩ := H
 replace H : (some (t270, t271)) = some (r1, r2) := H
 have A3 := Aside0.mk A30
 clear A30
 simp only [Option.some.injEq, Prod.mk.injEq] at H
 obtain ⟨rfl, rfl⟩ := H
 go_enter Tryd.func74, Tryd.ntmps74
 go_wp2_with (first | ((with_reducible refine gf 93 rfl ?_); refine gL (some 25) rfl rfl Tryd.func93 rfl #[.int .u64 a0, .int .u64 a1] rfl ?_; (with_reducible refine (bits_Mul64.calls a0 a1 t270 t271 _ A3.out).mono ?_); rintro e w' ⟨rfl, ⟨nd, rfl⟩⟩; refine ⟨_, rfl, ?_⟩))
 go_ret2
 exact ⟨by first | rfl | (simp; done) | (simp [*]; done), by repeat (first | exact Drawn0.refl _ | apply Drawn0.step)⟩

/-! ### slices_Repeat_byte_byte: function 45 -/
mutual
def slices_Repeat_byte_byte.j0 : Nat → List Int → Int → Bool → Option (List Int)
 | 0, _, _, _ => none
 | k + 1, x0, x6, x26 => if x26 = true then (none) else (if 0 ≤ (wrap64 (x6)) then (if (wrap64 (x6) : Int).toNat ≤ 281474976710656 then ((some (List.replicate (wrap64 (x6) : Int).toNat 0 : List Int)).bind fun y274 => (slices_Repeat_byte_byte.l0 k (cpy y274 0 y274.length x0) ((min x0.length y274.length : Nat) : Int))) else (none)) else (none))
def slices_Repeat_byte_byte.l0 : Nat → List Int → Int → Option (List Int)
 | 0, _, _ => none
 | k + 1, x7, x8 => if x8 < (x7.length : Int) then (if 0 ≤ x8 then (if x8 ≤ (x7.length : Int) then ((some (x7.drop (x8 : Int).toNat : List Int)).bind fun y278 => ((some (x7.take (x8 : Int).toNat : List Int)).bind fun y282 => (slices_Repeat_byte_byte.l0 k (cpy x7 ((x8 : Int).toNat) y278.length y282) (wrap64 (x8 + ((min y282.length y278.length : Nat) : Int)))))) else (none)) else (none)) else (some x7)
end
def slices_Repeat_byte_byte.f (k : Nat) (l0 : List Int) (a1 : Int) : Option (List Int) := if a1 < 0 then (none) else ((bits_Mul.f (IntKind.u64.wrap ((l0.length : Int))) (IntKind.u64.wrap (a1))).bind fun bt272 => (if bt272.1 > 0 then (slices_Repeat_byte_byte.j0 k l0 bt272.2 true) else (slices_Repeat_byte_byte.j0 k l0 bt272.2 (decide (bt272.2 > 9223372036854775807)))))
theorem slices_Repeat_byte_byte.mono_l : ∀ k, (∀ y0 y1 y2, LeO (slices_Repeat_byte_byte.j0 k y0 y1 y2) (slices_Repeat_byte_byte.j0 (k + 1) y0 y1 y2)) ∧ (∀ y0 y1, LeO (slices_Repeat_byte_byte.l0 k y0 y1) (slices_Repeat_byte_byte.l0 (k + 1) y0 y1))
 | 0 => ⟨fun _ _ _ r h => by simp [slices_Repeat_byte_byte.j0] at h, fun _ _ r h => by simp [slices_Repeat_byte_byte.l0] at h⟩
 | k + 1 => by
  obtain ⟨ih0, ih1⟩ := slices_Repeat_byte_byte.mono_l k
  refine ⟨?_, ?_⟩
  ·intro y0 y1 y2
   unfold slices_Repeat_byte_byte.j0
   repeat' first
   | (with_reducible exact ih0 _ _ _)
   | (with_reducible exact ih1 _ _)
   | (with_reducible first | exact LeO.refl _ | exact LeO.none _ | refine LeO.ite ?_ ?_ | refine LeO.bind ?_ (fun _ => ?_))
   | exact ih0 _ _ _
   | exact ih1 _ _
   | exact LeO.none _ | refine LeO.ite ?_ ?_ | refine LeO.bind ?_ (fun _ => ?_)
  ·intro y0 y1
   unfold slices_Repeat_byte_byte.l0
   repeat' first
   | (with_reducible exact ih0 _ _ _)
   | (with_reducible exact ih1 _ _)
   | (with_reducible first | exact LeO.refl _ | exact LeO.none _ | refine LeO.ite ?_ ?_ | refine LeO.bind ?_ (fun _ => ?_))
   | exact ih0 _ _ _
   | exact ih1 _ _
   | exact LeO.none _ | refine LeO.ite ?_ ?_ | refine LeO.bind ?_ (fun _ => ?_)
theorem slices_Repeat_byte_byte.mono : ∀ a0 a1 k, LeO (slices_Repeat_byte_byte.f k a0 a1) (slices_Repeat_byte_byte.f (k + 1) a0 a1) := by
 intro a0 a1 k
 obtain ⟨ih0, ih1⟩ := slices_Repeat_byte_byte.mono_l k
 unfold slices_Repeat_byte_byte.f
 repeat' first
   | (with_reducible exact ih0 _ _ _)
   | (with_reducible exact ih1 _ _)
   | (with_reducible first | exact LeO.refl _ | exact LeO.none _ | refine LeO.ite ?_ ?_ | refine LeO.bind ?_ (fun _ => ?_))
   | exact ih0 _ _ _
   | exact ih1 _ _
   | exact LeO.none _ | refine LeO.ite ?_ ?_ | refine LeO.bind ?_ (fun _ => ?_)
def slices_Repeat_byte_byte.T9 : Bool × List (List Nat × List Nat) := (true, [([], []), ([], []), ([], []), ([1, 2], [1, 2]), ([], []), ([], []), ([4, 5], [4, 5]), ([3, 6], [3, 6]), ([0, 7], [0, 7]), ([8, 7, 0, 1, 2, 3, 4, 5, 6, 7, 8], [0, 2, 5, 8])])
def slices_Repeat_byte_byte.B9 : List Nat := [0, 0, 0, 6, 0, 0, 48, 126, 255, 511]
theorem slices_Repeat_byte_byte.tab9 : rtab .any (opsOf Tryd.f45 9) = slices_Repeat_byte_byte.T9 := by kernel_rfl
theorem slices_Repeat_byte_byte.bits9 : waitsOk slices_Repeat_byte_byte.T9.2 slices_Repeat_byte_byte.B9 = true := by kernel_rfl
set_option maxHeartbeats 8000000 in
set_option maxRecDepth 100000 in
theorem slices_Repeat_byte_byte.calls (k : Nat) (A0 : Option Addr) (c0 : Nat) (l0 : List Int) (a1 : Int) (r : List Int) (w : World) (hr0 : Kd.C (Kd.int .u8) w A0 l0.length l0) (hc0 : l0.length ≤ c0) (h : slices_Repeat_byte_byte.f k l0 a1 = some r) :
  Calls Tryd.prog 45 #[.slice A0 l0.length c0, .int .i64 a1] w fun e w' => ∃ v0_ : Value, e = .returned (v0_) ∧ Kd.R (Kd.int .u8) 5 w' w.heap.size (fun _ => True) v0_ r ∧ Below w.heap.size w w' := by
 have HR0 := Aside0.mk hr0
 have HC0 := Aside0.mk hc0
 clear hr0 hc0
 have HB := Aside0.mk (Below.refl w.heap.size w)
 have H : (if a1 < 0 then (none) else ((bits_Mul.f (IntKind.u64.wrap ((l0.length : Int))) (IntKind.u64.wrap (a1))).bind fun bt272 => (if bt272.1 > 0 then (slices_Repeat_byte_byte.j0 k l0 bt272.2 true) else (slices_Repeat_byte_byte.j0 k l0 bt272.2 (decide (bt272.2 > 9223372036854775807)))))) = some r := h
 clear h
 by_cases c3 : a1 < 0
 ·rw [if_pos c3] at H
  exact absurd H (by simp)
 ·rw [if_neg c3] at H
  have c3b0 := decide_eq_false c3
  clear c3
  replace H := Option.bind_eq_some_iff.mp H
  obtain ⟨⟨t272, t273⟩, A40, H⟩ := H
  replace H : (if t272 > 0 then (slices_Repeat_byte_byte.j0 k l0 t273 true) else (slices_Repeat_byte_byte.j0 k l0 t273 (decide (t273 > 9223372036854775807)))) = some r := H
  have A4 := Aside0.mk A40
  clear A40
  have HC5 := Aside0.mk H
  clear H
  go_enter Tryd.func45, Tryd.ntmps45
  go_upto_region 4 with (first | ((with_reducible refine gf 74 rfl ?_); refine gL (some 18) rfl rfl Tryd.func74 rfl #[.int .u64 (IntKind.u64.wrap ((l0.length : Int))), .int .u64 (IntKind.u64.wrap (a1))] rfl ?_; (with_reducible refine (bits_Mul.calls (IntKind.u64.wrap ((l0.length : Int))) (IntKind.u64.wrap (a1)) t272 t273 _ A4.out).mono ?_); rintro e w' ⟨rfl, ⟨nd, rfl⟩⟩; refine ⟨_, rfl, ?_⟩))
  (try simp only [Act.put, List.setIfInBounds_toArray, List.set_cons_zero, List.set_cons_succ])
  go_cut [26] (fun v26 wc => ∃ (kq : Nat) (x26_4 : Bool), v26 = .bool x26_4 ∧ Aside0 (slices_Repeat_byte_byte.j0 kq l0 t273 x26_4 = some r) ∧ Aside0 (kq ≤ k) ∧ Aside0 (Below w.heap.size w wc))
  case first =>
   have H := HC5.out
   clear HC5
   by_cases c6 : t272 > 0
   ·rw [if_pos c6] at H
    have c6b0 := decide_eq_true c6
    clear c6
    (first | rw [c6b0] | (simp only [i64_w, i32_w]; rw [c6b0]) | skip)
    have H' := Aside0.mk H
    clear H
    go_wp2
    go_meet
    case rel => exact ⟨_, (true), rq, H', ⟨by first | omega | exact Nat.le_refl _⟩, ⟨bl⟩⟩
   ·rw [if_neg c6] at H
    have c6b0 := decide_eq_false c6
    clear c6
    (first | rw [c6b0] | (simp only [i64_w, i32_w]; rw [c6b0]) | skip)
    have H' := Aside0.mk H
    clear H
    go_wp2
    go_meet
    case rel => exact ⟨_, (decide (t273 > 9223372036854775807)), rq, H', ⟨by first | omega | exact Nat.le_refl _⟩, ⟨bl⟩⟩
  case rest =>
   clear HC5
   obtain ⟨kq, x26_4, rfl, HA, HJ4, HB⟩ := hcut
   cases kq with
   | zero => exact absurd HA.out (by simp [slices_Repeat_byte_byte.j0])
   | succ kj4 =>
    have H := HA.out
    clear HA
    simp only [slices_Repeat_byte_byte.j0] at H
    by_cases c7 : x26_4 = true
    ·subst c7
     have H1 : (none) = some r := by rw [if_pos rfl] at H; exact H
     clear H
     have H := H1
     clear H1
     exact absurd H (by simp)
    ·replace c7 := Bool.eq_false_iff.mpr c7
     subst c7
     have H1 : (if 0 ≤ (wrap64 (t273)) then (if (wrap64 (t273) : Int).toNat ≤ 281474976710656 then ((some (List.replicate (wrap64 (t273) : Int).toNat 0 : List Int)).bind fun y274 => (slices_Repeat_byte_byte.l0 kj4 (cpy y274 0 y274.length l0) ((min l0.length y274.length : Nat) : Int))) else (none)) else (none)) = some r := by rw [if_neg (show ¬ (false = true) by decide)] at H; exact H
     clear H
     have H := H1
     clear H1
     obtain ⟨ji8, hji8⟩ : ∃ j_ : Int, (wrap64 (t273)) = j_ := ⟨_, rfl⟩
     replace H : (if 0 ≤ (ji8) then (if (ji8 : Int).toNat ≤ 281474976710656 then ((some (List.replicate (ji8 : Int).toNat 0 : List Int)).bind fun y274 => (slices_Repeat_byte_byte.l0 kj4 (cpy y274 0 y274.length l0) ((min l0.length y274.length : Nat) : Int))) else (none)) else (none)) = some r := by first | (rw [hji8] at H; exact H) | (simp only [hji8] at H ⊢; exact H)
     have hji8w : (IntKind.i64.wrap (t273)) = ji8 := (i64_w _).trans hji8
     by_cases c9 : 0 ≤ (ji8)
     ·rw [if_pos c9] at H
      have c9b0 := eq_true c9
      have c9b1 := decide_eq_true c9
      clear c9
      by_cases c10 : (ji8 : Int).toNat ≤ 281474976710656
      ·rw [if_pos c10] at H
       have c10b0 := eq_true c10
       have c10b1 := decide_eq_true c10
       clear c10
       obtain ⟨y274, hy_⟩ : ∃ y_ : List Int, y_ = (List.replicate (ji8 : Int).toNat 0) := ⟨_, rfl⟩
       replace H : (slices_Repeat_byte_byte.l0 kj4 (cpy y274 0 y274.length l0) ((min l0.length y274.length : Nat) : Int)) = some r := rh
       have Ny274 := aE hy_
       clear hy_
       obtain ⟨y277, hy_⟩ : ∃ y_ : List Int, y_ = (cpy y274 0 y274.length l0) := ⟨_, rfl⟩
       replace H : (slices_Repeat_byte_byte.l0 kj4 y277 ((min l0.length y274.length : Nat) : Int)) = some r := rh
       have Ny277 := aE hy_
       clear hy_
       have H' := Aside0.mk H
       clear H
       (try apply_assumption)
       go_wp2_with (first | ((with_reducible refine gd 30 rfl ?_); refine Kd.R_make (Kd.int .u8) _ 5 rfl (N := 30) rfl 22 _ _ rfl ji8 rfl rfl Tryd.underlying22 (.int .u8 0) 1 info5 rfl (by decide) (by omega) 0 (ok := fun _ => True) (okp := fun _ => True) rfl (fun _ hk => hk) trivial (dt) (Nat.le_trans (Nat.mul_le_mul_right _ (dt : ji8.toNat ≤ 281474976710656)) (by omega)) (Below.refl _ _) (Nat.le_refl _) ?_; intro v275 w11 ho12 hb hg_ hnew_; clear hg_ hnew_; (first | rw [← Ny274.out] at ho12 | (simp only [Int.reduceToNat] at ho12; rw [← Ny274.out] at ho12)); have n_ := aC (Kd.R_lower ho12 bz) (aE (bs hb)); clear HB; obtain ⟨HO276, HB⟩ := n_; clear hb ho12; obtain ⟨Ao13, co13, eo13⟩ := Kd.R_slice HO276.out; subst eo13) | ((with_reducible refine gate_builtin (b := .copy) (xs := #[.tmp 31, .tmp 32]) rfl ?_); skip; have hk_ : 0 + y274.length ≤ y274.length := (by first | omega | (have h_ := (Kd.R_reads' (HO276.out)).1; omega)); refine Kd.R_copyin 0 (w0 := w) w.heap.size rfl (.tmp 31) (.tmp 32) 22 22 5 rfl Tryd.underlying22 (by kernel_rfl) (n := y274.length) (c := co13) (k := 0) (A0 := Ao13) (xs := y274) (ys := l0) rfl rfl ?hA (rU HO276.out) ?aR hk_ bl bz ?_; (case hA => exact (by first | rfl | (rw [if_pos rfl]) | (split <;> simp; done) | (split <;> simp [Go.Addr.add]))); (case aR => repeat (first | exact (Kd.C_below HR0.out HB.out) | (with_reducible refine Kd.C_alloc ?_ _) | (with_reducible refine Kd.C_drewN ?_ _) | (with_reducible refine Kd.C_drew ?_))); intro w14 ho hb hg; clear hk_; rw [← Ny277.out] at ho; have n_ := aC ho (aE hb); clear HO276 HB; obtain ⟨HO276, HB⟩ := n_; clear ho hb hg))
       go_loopg [8] kj4 (fun kq v8 w' => ∃ (x7_2 : List Int) (x8_2 : Int), v8 = .int .i64 x8_2 ∧ Aside0 (slices_Repeat_byte_byte.l0 kq x7_2 x8_2 = some r) ∧ Aside0 (kq ≤ kj4) ∧ Aside0 (Kd.R (Kd.int .u8) 5 w' w.heap.size (fun _ => True) (.slice Ao13 y274.length co13) x7_2) ∧ Aside0 (Below w.heap.size w w'))
       case atStart => exact ⟨(y277), (((min l0.length y274.length : Nat) : Int)), rq, H', ⟨Nat.le_refl _⟩, ⟨rU HO276.out⟩, ⟨bl⟩⟩
       case round =>
        clear H'
        obtain ⟨x7_2, x8_2, rfl, HA, HK2, HO_7, HB⟩ := hrel
        have hl7_2 := (Kd.R_reads' HO_7.out).1
        rw [hl7_2] at HO_7
        (try simp only [hl7_2])
        cases gk with
        | zero => exact absurd HA.out (by simp [slices_Repeat_byte_byte.l0])
        | succ k2 =>
         have H := HA.out
         clear HA
         simp only [slices_Repeat_byte_byte.l0] at H
         by_cases c15 : x8_2 < (x7_2.length : Int)
         ·rw [if_pos c15] at H
          have c15b0 := decide_eq_true c15
          (try (have c15b0_hl7_2 := c15b0; simp only [hl7_2] at c15b0_hl7_2))
          clear c15
          by_cases c16 : 0 ≤ x8_2
          ·rw [if_pos c16] at H
           have c16b0 := eq_true c16
           have c16b1 := decide_eq_true c16
           clear c16
           by_cases c17 : x8_2 ≤ (x7_2.length : Int)
           ·rw [if_pos c17] at H
            have c17b0 := eq_true c17
            have c17b1 := decide_eq_true c17
            (try (have c17b1_hl7_2 := c17b1; simp only [hl7_2] at c17b1_hl7_2))
            clear c17
            obtain ⟨y278, hy_⟩ : ∃ y_ : List Int, y_ = (x7_2.drop (x8_2 : Int).toNat) := ⟨_, rfl⟩
            replace H : ((some (x7_2.take (x8_2 : Int).toNat : List Int)).bind fun y282 => (slices_Repeat_byte_byte.l0 k2 (cpy x7_2 ((x8_2 : Int).toNat) y278.length y282) (wrap64 (x8_2 + ((min y282.length y278.length : Nat) : Int))))) = some r := rh
            have Ny278 := aE hy_
            clear hy_
            have c18b0 := eq_true (dt : 0 ≤ x8_2)
            have c19b0 := eq_true (dt : x8_2 ≤ (x7_2.length : Int))
            obtain ⟨y282, hy_⟩ : ∃ y_ : List Int, y_ = (x7_2.take (x8_2 : Int).toNat) := ⟨_, rfl⟩
            replace H : (slices_Repeat_byte_byte.l0 k2 (cpy x7_2 ((x8_2 : Int).toNat) y278.length y282) (wrap64 (x8_2 + ((min y282.length y278.length : Nat) : Int)))) = some r := rh
            have Ny282 := aE hy_
            clear hy_
            obtain ⟨y286, hy_⟩ : ∃ y_ : List Int, y_ = (cpy x7_2 ((x8_2 : Int).toNat) y278.length y282) := ⟨_, rfl⟩
            replace H : (slices_Repeat_byte_byte.l0 k2 y286 (wrap64 (x8_2 + ((min y282.length y278.length : Nat) : Int)))) = some r := rh
            have Ny286 := aE hy_
            clear hy_
            have H' := Aside0.mk H
            clear H
            try go_wp2
            have n_ := aC (Kd.R_drew HO_7.out) (aE (below_drew1 HB.out))
            clear HO_7 HB
            obtain ⟨HO_7, HB⟩ := n_
            have q21 : (x8_2 : Int) ≤ ((x7_2.length : Int) : Int) := dt
            obtain ⟨i021, hi021, _, hsz21, _⟩ := info_parts info5
            have hroom21 : x7_2.length ≤ co13 := (Kd.R_reads' HO_7.out).2.1
            have hC21 : Kd.C (Kd.int .u8) _ Ao13 x7_2.length x7_2 := (Kd.R_reads' HO_7.out).2.2
            have q021 : (0 : Int) ≤ (x8_2 : Int) := dt
            have hcut21 := cut_from (P := Tryd.prog) 22 5 .i64 Tryd.underlying22 hi021 1 hsz21 Ao13 x7_2.length co13 x8_2 q021 q21
            have hr21 := Kd.C_drop (m := (x8_2 : Int).toNat) (c := co13) hC21 (by omega) hroom21
            obtain ⟨A21, hA21⟩ : ∃ A1, A1 = (if co13 = (x8_2 : Int).toNat then Ao13 else (Ao13 : Option Addr).map (·.add ((x8_2 : Int).toNat * 1))) := ⟨_, rfl⟩
            obtain ⟨c21, hc21⟩ : ∃ c1, c1 = co13 - (x8_2 : Int).toNat := ⟨_, rfl⟩
            have hy21 : y278.length = x7_2.length - (x8_2 : Int).toNat := (by rw [Ny278.out, List.length_drop] <;> omega)
            rw [show (x7_2).drop (x8_2 : Int).toNat = y278 from Ny278.out.symm] at hr21
            replace hr21 : Kd.C (Kd.int .u8) _ A21 y278.length y278 := (by rw [hA21]; exact hr21)
            rw [← hy21, ← hA21, ← hc21] at hcut21
            have HR281 := Aside0.mk hr21
            have HC281 := Aside0.mk (show y278.length ≤ c21 from by rw [hy21, hc21]; exact Nat.sub_le_sub_right hroom21 _)
            clear hr21 hC21 hroom21 hi021 hsz21 hc21
            have KY21 := Aside0.mk hy21
            have KA21 := Aside0.mk hA21
            clear hy21 hA21
            have KL21 := Aside0.mk (show (x8_2 : Int).toNat ≤ x7_2.length from by omega)
            replace q21 := eq_true q21
            have q22 : (x8_2 : Int) ≤ ((x7_2.length : Int) : Int) := dt
            obtain ⟨i022, hi022, _, hsz22, _⟩ := info_parts info5
            have hroom22 : x7_2.length ≤ co13 := (Kd.R_reads' HO_7.out).2.1
            have hC22 : Kd.C (Kd.int .u8) _ Ao13 x7_2.length x7_2 := (Kd.R_reads' HO_7.out).2.2
            have hcut22 := cut_to (P := Tryd.prog) 22 5 .i64 Tryd.underlying22 hi022 Ao13 x7_2.length co13 x8_2 (dt) q22 hroom22
            have hr22 := Kd.C_take (m := (x8_2 : Int).toNat) hC22 (by omega)
            have hy22 : y282.length = (x8_2 : Int).toNat := (by rw [Ny282.out, List.length_take]; omega)
            rw [← Ny282.out] at hr22
            rw [← hy22] at hcut22
            have HR285 := Aside0.mk hr22
            have HC285 := Aside0.mk (show y282.length ≤ co13 from by omega)
            clear hr22 hC22 hroom22 hi022 hsz22
            have KY22 := Aside0.mk hy22
            clear hy22
            have KL22 := Aside0.mk (show (x8_2 : Int).toNat ≤ x7_2.length from by omega)
            replace q22 := eq_true q22
            refine start_ (n := 10) (S := fun w' => True) (ds := []) #[false, false, false, false, false, false, false, false, false, false] (by kernel_rfl) rfl rfl trivial (fun hHeld => ?_); refine with_tabW slices_Repeat_byte_byte.tab9 slices_Repeat_byte_byte.bits9 (fun HT_ HW_ => ?_)
            generalize wr.drew = w20 at HO_7 HB HR281 HR285 hHeld ⊢
            refine pu 0 38 (bv 10 1) HT_ rfl rfl ?_
            refine pu 1 39 (bv 10 3) HT_ rfl rfl ?_
            refine pu 2 40 (bv 10 7) HT_ rfl rfl ?_
            refine pu 3 41 (bv 10 15) HT_ rfl rfl ?_
            refine pu 4 42 (bv 10 31) HT_ rfl rfl ?_
            refine pu 5 43 (bv 10 63) HT_ rfl rfl ?_
            refine pu 6 44 (bv 10 127) HT_ rfl rfl ?_
            refine one_ (i := 7) (N := some 45) (bv 10 255) rfl rfl (one_of HT_.out (by kernel_rfl)) (by decide) (fun K hK => ?_)
            skip
            have hk_ : (x8_2 : Int).toNat + y278.length ≤ x7_2.length := (by have h_ := KY21.out; have h2_ := KL21.out; omega)
            refine Kd.R_copyin_step 0 (w0 := w) w.heap.size (by rfl) (.tmp 41) (.tmp 44) 22 22 5 rfl Tryd.underlying22 (by kernel_rfl) (n := x7_2.length) (c := co13) (k := (x8_2 : Int).toNat) (A0 := Ao13) (xs := x7_2) (ys := y282) rfl rfl ?hA (rU HO_7.out) ?aR hk_ bl bz ?_
            (case hA => exact KA21.out)
            (case aR => repeat (first | exact (by repeat (first | (with_reducible exact HR285.out) | (with_reducible refine Kd.C_alloc ?_ _) | (with_reducible refine Kd.C_drewN ?_ _) | (with_reducible refine Kd.C_drew ?_) | exact HR285.out)) | (with_reducible refine Kd.C_alloc ?_ _) | (with_reducible refine Kd.C_drewN ?_ _) | (with_reducible refine Kd.C_drew ?_)))
            intro w23 ho hb hg
            clear hk_
            rw [← Ny286.out] at ho
            have n_ := aC ho (aE hb)
            clear HO_7 HB
            obtain ⟨HO_7, HB⟩ := n_
            clear ho hb hg
            refine hK.out _ _ trivial (fun hHeld => ?_)
            clear hK K
            refine nm (some 45) ?_
            refine pu 8 46 (bv 10 511) HT_ rfl rfl ?_
            refine pu 9 8 (bv 10 1023) HT_ rfl rfl ?_
            refine done_ (done_of HT_.out (by kernel_rfl)) ?_
            try go_wp2
            (try simp only [← hl7_2])
            go_roundg k2
            case measure => have := HJ4.out; have := HK2.out; omega
            case rel => exact ⟨(y286), (wrap64 (x8_2 + ((min y282.length y278.length : Nat) : Int))), rq, H', ⟨by have := HJ4.out; have := HK2.out; omega⟩, ⟨by (try simp only [hl7_2]); (with_reducible repeat (first | apply Kd.R_alloc | apply Kd.R_drewN | apply Kd.R_drew)); exact HO_7.out⟩, ⟨bl⟩⟩
           ·rw [if_neg c17] at H
            exact absurd H (by simp)
          ·rw [if_neg c16] at H
           exact absurd H (by simp)
         ·rw [if_neg c15] at H
          have c15b0 := decide_eq_false c15
          (try (have c15b0_hl7_2 := c15b0; simp only [hl7_2] at c15b0_hl7_2))
          clear c15
          obtain rfl := Option.some.inj H
          go_wp2
          go_ret
          exact ⟨_, by first | rfl | (simp [errW_none, errW_some] <;> rfl) | (simp only [← hji8]; first | rfl | (simp [errW_none, errW_some] <;> rfl)) | (simp [*, errW_none, errW_some] <;> rfl), rU HO_7.out, bl⟩
      ·rw [if_neg c10] at H
       exact absurd H (by simp)
     ·rw [if_neg c9] at H
      exact absurd H (by simp)

/-! ### runs_FromRow: function 19 -/
mutual
def runs_FromRow.j0 : Nat → List Int → Int → Bool → Option (List Int × Int)
 | 0, _, _, _ => none
 | k + 1, x0, x1, x14 => if x14 = true then (some (([] : List Int), 2)) else (runs_FromRow.l0 k x1 ([] : List Int) x0 (x0.length : Int) 0)
def runs_FromRow.l0 : Nat → Int → List Int → List Int → Int → Int → Option (List Int × Int)
 | 0, _, _, _, _, _ => none
 | k + 1, x1, x6, x15, x16, x17 => if x17 < x16 then (if 0 ≤ x17 then (if x17 < (x15.length : Int) then (if (rd x15 x17) < 0 then (some (([] : List Int), 3)) else (if (rd x15 x17) = 0 then (if x17 > 0 then (some (([] : List Int), 3)) else (if (rd x15 x17) > (wrap64 (x1 - (x6.length : Int))) then (some (([] : List Int), 3)) else (if (x6.length : Int) = x1 then (some (([] : List Int), 3)) else ((slices_Repeat_byte_byte.f k (([(Int.tmod x17 2) % 256] : List Int)) (rd x15 x17)).bind fun t291 => (if x6.length + t291.length < 140737488355328 then (runs_FromRow.l0 k x1 (x6 ++ t291) x15 x16 (wrap64 (x17 + 1))) else (none)))))) else (if (rd x15 x17) > (wrap64 (x1 - (x6.length : Int))) then (some (([] : List Int), 3)) else (if (x6.length : Int) = x1 then (some (([] : List Int), 3)) else ((slices_Repeat_byte_byte.f k (([(Int.tmod x17 2) % 256] : List Int)) (rd x15 x17)).bind fun t300 => (if x6.length + t300.length < 140737488355328 then (runs_FromRow.l0 k x1 (x6 ++ t300) x15 x16 (wrap64 (x17 + 1))) else (none))))))) else (none)) else (none)) else (if (x6.length : Int) = x1 then (some (x6, 0)) else (some (([] : List Int), 3)))
end
def runs_FromRow.f (k : Nat) (l0 : List Int) (a1 : Int) : Option (List Int × Int) := if a1 < 0 then (runs_FromRow.j0 k l0 a1 true) else (runs_FromRow.j0 k l0 a1 (decide (a1 > 200)))
theorem runs_FromRow.mono_l : ∀ k, (∀ y0 y1 y2, LeO (runs_FromRow.j0 k y0 y1 y2) (runs_FromRow.j0 (k + 1) y0 y1 y2)) ∧ (∀ y0 y1 y2 y3 y4, LeO (runs_FromRow.l0 k y0 y1 y2 y3 y4) (runs_FromRow.l0 (k + 1) y0 y1 y2 y3 y4))
 | 0 => ⟨fun _ _ _ r h => by simp [runs_FromRow.j0] at h, fun _ _ _ _ _ r h => by simp [runs_FromRow.l0] at h⟩
 | k + 1 => by
  obtain ⟨ih0, ih1⟩ := runs_FromRow.mono_l k
  refine ⟨?_, ?_⟩
  ·intro y0 y1 y2
   unfold runs_FromRow.j0
   repeat' first
   | (with_reducible exact ih0 _ _ _)
   | (with_reducible exact ih1 _ _ _ _ _)
   | (with_reducible exact slices_Repeat_byte_byte.mono _ _ _)
   | (with_reducible first | exact LeO.refl _ | exact LeO.none _ | refine LeO.ite ?_ ?_ | refine LeO.bind ?_ (fun _ => ?_))
   | exact ih0 _ _ _
   | exact ih1 _ _ _ _ _
   | exact slices_Repeat_byte_byte.mono _ _ _
   | exact LeO.none _ | refine LeO.ite ?_ ?_ | refine LeO.bind ?_ (fun _ => ?_)
  ·intro y0 y1 y2 y3 y4
   unfold runs_FromRow.l0
   repeat' first
   | (with_reducible exact ih0 _ _ _)
   | (with_reducible exact ih1 _ _ _ _ _)
   | (with_reducible exact slices_Repeat_byte_byte.mono _ _ _)
   | (with_reducible first | exact LeO.refl _ | exact LeO.none _ | refine LeO.ite ?_ ?_ | refine LeO.bind ?_ (fun _ => ?_))
   | exact ih0 _ _ _
   | exact ih1 _ _ _ _ _
   | exact slices_Repeat_byte_byte.mono _ _ _
   | exact LeO.none _ | refine LeO.ite ?_ ?_ | refine LeO.bind ?_ (fun _ => ?_)
theorem runs_FromRow.mono : ∀ a0 a1 k, LeO (runs_FromRow.f k a0 a1) (runs_FromRow.f (k + 1) a0 a1) := by
 intro a0 a1 k
 obtain ⟨ih0, ih1⟩ := runs_FromRow.mono_l k
 unfold runs_FromRow.f
 repeat' first
   | (with_reducible exact ih0 _ _ _)
   | (with_reducible exact ih1 _ _ _ _ _)
   | (with_reducible exact slices_Repeat_byte_byte.mono _ _ _)
   | (with_reducible first | exact LeO.refl _ | exact LeO.none _ | refine LeO.ite ?_ ?_ | refine LeO.bind ?_ (fun _ => ?_))
   | exact ih0 _ _ _
   | exact ih1 _ _ _ _ _
   | exact slices_Repeat_byte_byte.mono _ _ _
   | exact LeO.none _ | refine LeO.ite ?_ ?_ | refine LeO.bind ?_ (fun _ => ?_)
set_option maxHeartbeats 8000000 in
set_option maxRecDepth 100000 in
theorem runs_FromRow.calls (k : Nat) (A0 : Option Addr) (c0 : Nat) (l0 : List Int) (a1 : Int) (r1 : List Int) (r2 : Int) (w : World) (hr0 : Kd.C (Kd.int .i64) w A0 l0.length l0) (hc0 : l0.length ≤ c0) (h : runs_FromRow.f k l0 a1 = some (r1, r2)) :
  Calls Tryd.prog 19 #[.slice A0 l0.length c0, .int .i64 a1] w fun e w' => ∃ v0_ : Value, e = .returned (.tuple #[v0_, .int .i64 r2]) ∧ Kd.R (Kd.int .u8) 5 w' w.heap.size (fun _ => True) v0_ r1 ∧ Below w.heap.size w w' := by
 have HR0 := Aside0.mk hr0
 have HC0 := Aside0.mk hc0
 clear hr0 hc0
 have HB := Aside0.mk (Below.refl w.heap.size w)
 have H : (if a1 < 0 then (runs_FromRow.j0 k l0 a1 true) else (runs_FromRow.j0 k l0 a1 (decide (a1 > 200)))) = some (r1, r2) := h
 clear h
 have HC3 := Aside0.mk H
 clear H
 go_enter Tryd.func19, Tryd.ntmps19
 go_upto_region 1 with (fail)
 go_cut [14] (fun v14 wc => ∃ (kq : Nat) (x14_2 : Bool), v14 = .bool x14_2 ∧ Aside0 (runs_FromRow.j0 kq l0 a1 x14_2 = some (r1, r2)) ∧ Aside0 (kq ≤ k) ∧ Aside0 (Below w.heap.size w wc))
 case first =>
  have H := HC3.out
  clear HC3
  by_cases c4 : a1 < 0
  ·rw [if_pos c4] at H
   have c4b0 := decide_eq_true c4
   clear c4
   (first | rw [c4b0] | (simp only [i64_w, i32_w]; rw [c4b0]) | skip)
   have H' := Aside0.mk H
   clear H
   go_wp2
   go_meet
   case rel => exact ⟨_, (true), rq, H', ⟨by first | omega | exact Nat.le_refl _⟩, ⟨bl⟩⟩
  ·rw [if_neg c4] at H
   have c4b0 := decide_eq_false c4
   clear c4
   (first | rw [c4b0] | (simp only [i64_w, i32_w]; rw [c4b0]) | skip)
   have H' := Aside0.mk H
   clear H
   go_wp2
   go_meet
   case rel => exact ⟨_, (decide (a1 > 200)), rq, H', ⟨by first | omega | exact Nat.le_refl _⟩, ⟨bl⟩⟩
 case rest =>
  clear HC3
  obtain ⟨kq, x14_2, rfl, HA, HJ2, HB⟩ := hcut
  cases kq with
  | zero => exact absurd HA.out (by simp [runs_FromRow.j0])
  | succ kj2 =>
   have H := HA.out
   clear HA
   simp only [runs_FromRow.j0] at H
   by_cases c5 : x14_2 = true
   ·subst c5
    have H1 : (some (([] : List Int), 2)) = some (r1, r2) := by rw [if_pos rfl] at H; exact H
    clear H
    have H := H1
    clear H1
    simp only [Option.some.injEq, Prod.mk.injEq] at H
    obtain ⟨rfl, rfl⟩ := H
    go_wp2
    go_ret2
    exact ⟨_, re, by first | exact Kd.R_nil _ _ _ _ _ | exact Kd.N_nil _ _ _ _ _ | exact Kd.V_nil _ _ _ _ _ | exact Kd.Q_nil _ _ _ _ _ | exact Kd.S_nil _ _ _ _ _, bl⟩
   ·replace c5 := Bool.eq_false_iff.mpr c5
    subst c5
    have H1 : (runs_FromRow.l0 kj2 a1 ([] : List Int) l0 (l0.length : Int) 0) = some (r1, r2) := by rw [if_neg (show ¬ (false = true) by decide)] at H; exact H
    clear H
    have H := H1
    clear H1
    have H' := Aside0.mk H
    clear H
    go_wp2
    go_loopg [6, 17] kj2 (fun kq v6 v17 w' => ∃ (x6_2 : List Int) (x17_2 : Int), v17 = .int .i64 x17_2 ∧ Aside0 (runs_FromRow.l0 kq a1 x6_2 l0 (l0.length : Int) x17_2 = some (r1, r2)) ∧ Aside0 (kq ≤ kj2) ∧ Aside0 (Kd.R (Kd.int .u8) 5 w' w.heap.size (fun _ => True) v6 x6_2) ∧ Aside0 (Below w.heap.size w w'))
    case atStart => exact ⟨(([] : List Int)), (0), rq, H', ⟨Nat.le_refl _⟩, ⟨by first | exact Kd.R_nil _ _ _ _ _ | exact Kd.N_nil _ _ _ _ _ | exact Kd.V_nil _ _ _ _ _ | exact Kd.Q_nil _ _ _ _ _ | exact Kd.S_nil _ _ _ _ _⟩, ⟨bl⟩⟩
    case round =>
     clear H'
     obtain ⟨x6_2, x17_2, rfl, HA, HK2, HO_6, HB⟩ := hrel
     cases gk with
     | zero => exact absurd HA.out (by simp [runs_FromRow.l0])
     | succ k2 =>
      have H := HA.out
      clear HA
      simp only [runs_FromRow.l0] at H
      by_cases c6 : x17_2 < (l0.length : Int)
      ·rw [if_pos c6] at H
       have c6b0 := decide_eq_true c6
       clear c6
       by_cases c7 : 0 ≤ x17_2
       ·rw [if_pos c7] at H
        have c7b0 := decide_eq_true c7
        clear c7
        by_cases c8 : x17_2 < (l0.length : Int)
        ·rw [if_pos c8] at H
         have c8b0 := decide_eq_true c8
         clear c8
         by_cases c9 : (rd l0 x17_2) < 0
         ·rw [if_pos c9] at H
          have c9b0 := decide_eq_true c9
          clear c9
          simp only [Option.some.injEq, Prod.mk.injEq] at H
          obtain ⟨rfl, rfl⟩ := H
          have p287 : 0 ≤ (x17_2 : Int) := dt
          have q287 : x17_2 < (l0.length : Int) := dt
          obtain ⟨ad287, e287, hx287_0⟩ := Kd.at_int HR0.out x17_2 p287 q287
          cases e287
          replace hx287_0 := hcB HB.out hx287_0
          replace p287 := eq_true p287
          replace q287 := eq_true q287
          go_wp2
          go_ret2
          exact ⟨_, re, by first | exact Kd.R_nil _ _ _ _ _ | exact Kd.N_nil _ _ _ _ _ | exact Kd.V_nil _ _ _ _ _ | exact Kd.Q_nil _ _ _ _ _ | exact Kd.S_nil _ _ _ _ _, bl⟩
         ·rw [if_neg c9] at H
          have c9b0 := decide_eq_false c9
          clear c9
          by_cases c10 : (rd l0 x17_2) = 0
          ·rw [if_pos c10] at H
           have c10b0 := beq_iff_eq.mpr c10
           have c10b1 := bne_eq_false_iff_eq.mpr c10
           clear c10
           by_cases c11 : x17_2 > 0
           ·rw [if_pos c11] at H
            have c11b0 := decide_eq_true c11
            clear c11
            simp only [Option.some.injEq, Prod.mk.injEq] at H
            obtain ⟨rfl, rfl⟩ := H
            have p287 : 0 ≤ (x17_2 : Int) := dt
            have q287 : x17_2 < (l0.length : Int) := dt
            obtain ⟨ad287, e287, hx287_0⟩ := Kd.at_int HR0.out x17_2 p287 q287
            cases e287
            replace hx287_0 := hcB HB.out hx287_0
            replace p287 := eq_true p287
            replace q287 := eq_true q287
            go_wp2
            go_ret2
            exact ⟨_, re, by first | exact Kd.R_nil _ _ _ _ _ | exact Kd.N_nil _ _ _ _ _ | exact Kd.V_nil _ _ _ _ _ | exact Kd.Q_nil _ _ _ _ _ | exact Kd.S_nil _ _ _ _ _, bl⟩
           ·rw [if_neg c11] at H
            have c11b0 := decide_eq_false c11
            clear c11
            by_cases c12 : (rd l0 x17_2) > (wrap64 (a1 - (x6_2.length : Int)))
            ·rw [if_pos c12] at H
             have c12b0 := decide_eq_true c12
             clear c12
             simp only [Option.some.injEq, Prod.mk.injEq] at H
             obtain ⟨rfl, rfl⟩ := H
             have p287 : 0 ≤ (x17_2 : Int) := dt
             have q287 : x17_2 < (l0.length : Int) := dt
             obtain ⟨ad287, e287, hx287_0⟩ := Kd.at_int HR0.out x17_2 p287 q287
             cases e287
             replace hx287_0 := hcB HB.out hx287_0
             replace p287 := eq_true p287
             replace q287 := eq_true q287
             obtain ⟨Ao13, co13, eo13⟩ := Kd.R_slice HO_6.out
             subst eo13
             go_wp2
             go_ret2
             exact ⟨_, re, by first | exact Kd.R_nil _ _ _ _ _ | exact Kd.N_nil _ _ _ _ _ | exact Kd.V_nil _ _ _ _ _ | exact Kd.Q_nil _ _ _ _ _ | exact Kd.S_nil _ _ _ _ _, bl⟩
            ·rw [if_neg c12] at H
             have c12b0 := decide_eq_false c12
             clear c12
             by_cases c14 : (x6_2.length : Int) = a1
             ·rw [if_pos c14] at H
              have c14b0 := beq_iff_eq.mpr c14
              have c14b1 := bne_eq_false_iff_eq.mpr c14
              clear c14
              simp only [Option.some.injEq, Prod.mk.injEq] at H
              obtain ⟨rfl, rfl⟩ := H
              have p287 : 0 ≤ (x17_2 : Int) := dt
              have q287 : x17_2 < (l0.length : Int) := dt
              obtain ⟨ad287, e287, hx287_0⟩ := Kd.at_int HR0.out x17_2 p287 q287
              cases e287
              replace hx287_0 := hcB HB.out hx287_0
              replace p287 := eq_true p287
              replace q287 := eq_true q287
              obtain ⟨Ao15, co15, eo15⟩ := Kd.R_slice HO_6.out
              subst eo15
              go_wp2
              go_ret2
              exact ⟨_, re, by first | exact Kd.R_nil _ _ _ _ _ | exact Kd.N_nil _ _ _ _ _ | exact Kd.V_nil _ _ _ _ _ | exact Kd.Q_nil _ _ _ _ _ | exact Kd.S_nil _ _ _ _ _, bl⟩
             ·rw [if_neg c14] at H
              have c14b0 := beq_eq_false_iff_ne.mpr c14
              have c14b1 := bne_iff_ne.mpr c14
              obtain ⟨y288, hy_⟩ : ∃ y_ : List Int, y_ = (([(Int.tmod x17_2 2) % 256] : List Int)) := ⟨_, rfl⟩
              replace H : ((slices_Repeat_byte_byte.f k2 y288 (rd l0 x17_2)).bind fun t291 => (if x6_2.length + t291.length < 140737488355328 then (runs_FromRow.l0 k2 a1 (x6_2 ++ t291) l0 (l0.length : Int) (wrap64 (x17_2 + 1))) else (none))) = some (r1, r2) := rh
              have Ny288 := aE hy_
              clear hy_
              replace H := Option.bind_eq_some_iff.mp H
              obtain ⟨t291, A160, H⟩ := H
              replace H : (if x6_2.length + t291.length < 140737488355328 then (runs_FromRow.l0 k2 a1 (x6_2 ++ t291) l0 (l0.length : Int) (wrap64 (x17_2 + 1))) else (none)) = some (r1, r2) := H
              have A16 := Aside0.mk A160
              clear A160
              by_cases c17 : x6_2.length + t291.length < 140737488355328
              ·rw [if_pos c17] at H
               have LMc17 := Aside0.mk c17
               clear c17
               obtain ⟨y294, hy_⟩ : ∃ y_ : List Int, y_ = (x6_2 ++ t291) := ⟨_, rfl⟩
               replace H : (runs_FromRow.l0 k2 a1 y294 l0 (l0.length : Int) (wrap64 (x17_2 + 1))) = some (r1, r2) := rh
               have Ny294 := aE hy_
               clear hy_
               have H' := Aside0.mk H
               clear H
               have p287 : 0 ≤ (x17_2 : Int) := dt
               have q287 : x17_2 < (l0.length : Int) := dt
               obtain ⟨ad287, e287, hx287_0⟩ := Kd.at_int HR0.out x17_2 p287 q287
               cases e287
               replace hx287_0 := hcB HB.out hx287_0
               replace p287 := eq_true p287
               replace q287 := eq_true q287
               obtain ⟨Ao18, co18, eo18⟩ := Kd.R_slice HO_6.out
               subst eo18
               go_wp2_with (first | ((with_reducible refine gd 50 rfl ?_); (try (refine gate_guard (by rfl) ?_; dsimp only)); refine Kd.R_lit (Kd.int .u8) _ 5 ?hg (N := 50) ?hd (xs := ([(Int.tmod x17_2 2) % 256] : List Int)) (inner := [.int .u8 ((Int.tmod x17_2 2) % 256)]) (ok := fun _ => True) (okp := fun _ => True) ?hr ?hp (fun _ hk => hk) trivial (Below.refl _ _) (Nat.le_refl _) (by simp) ?_; (case hd => rfl); (case hg => rfl); (case hr => first | (go_simp; done) | (go_simp; rfl)); (case hp => exact (Reps.one (show Kd.M (Kd.int .u8) _ _ _ ((Int.tmod x17_2 2) % 256) [.int .u8 ((Int.tmod x17_2 2) % 256)] from rfl) (Reps.none _ _))); intro v289 w19 ho20 hb hg_ hnew_; clear hg_ hnew_; (first | rw [← Ny288.out] at ho20 | (simp only [Int.reduceToNat] at ho20; rw [← Ny288.out] at ho20)); have n_ := aC (Kd.R_elder' (rU HO_6.out) (Kd.R_base ho20) hb) (aC (Kd.R_lower (Kd.R_new' ho20 (Kd.R_lt (rU HO_6.out))) bz) (aE (bs hb))); clear HO_6 HB; obtain ⟨HO_6, HO290, HB⟩ := n_; clear hb ho20; obtain ⟨Ao21, co21, eo21⟩ := Kd.R_slice HO290.out; subst eo21) | ((with_reducible refine gf 45 rfl ?_); refine gL (some 52) rfl rfl Tryd.func45 rfl #[.slice Ao21 y288.length co21, .int .i64 (rd l0 x17_2)] rfl ?_; (with_reducible refine (slices_Repeat_byte_byte.calls k2 _ _ y288 (rd l0 x17_2) t291 _ ?side1 ?side2 A16.out).mono ?_); (case side1 => exact cU (Kd.R_reads' HO290.out).2.2); (case side2 => exact (Kd.R_reads' HO290.out).2.1); rintro e w22 ⟨v292, rfl, ho0, hb⟩; refine ⟨_, rfl, ?_⟩; have n_ := aC (Kd.R_elder' (rU HO_6.out) (Kd.R_base ho0) hb) (aC (Kd.R_elder' (rU HO290.out) (Kd.R_base ho0) hb) (aC (Kd.R_lower (Kd.R_new' (Kd.R_new' ho0 (Kd.R_lt (rU HO_6.out))) (Kd.R_lt (rU HO290.out))) bz) (aE (bs hb)))); clear HO_6 HO290 HB; obtain ⟨HO_6, HO290, HO293, HB⟩ := n_; (try clear hb); (try clear ho0); obtain ⟨Ao24, co24, eo24⟩ := Kd.R_slice HO293.out; subst eo24) | ((with_reducible refine gate_builtin (b := .append) (xs := #[.tmp 46, .tmp 52]) rfl ?_); (try (refine gate_guard (by rfl) ?_; dsimp only)); at_builtin; refine Kd.R_append_rows (Kd.int .u8) (w0 := w) w.heap.size rfl (.tmp 46) (.tmp 52) 22 5 (.int .u8 0) 1 rfl Tryd.underlying22 info5 rfl (by decide) (by omega) (.slice Ao18 x6_2.length co18) x6_2 t291 _ _ _ (fun k_ => some k_ ≠ (.slice Ao21 y288.length co21 : Value).ownBlock ∧ some k_ ≠ (.slice Ao24 t291.length co24 : Value).ownBlock) (fun _ => False) rfl rfl ?aO ?aR (fun _ _ h => h) (fun _ h => h.elim) ?aF ?aB ?aS ?aL ?_; (case aR => repeat (first | exact (Kd.R_reads' HO293.out).2.2 | (with_reducible refine Kd.C_alloc ?_ _) | (with_reducible refine Kd.C_drewN ?_ _) | (with_reducible refine Kd.C_drew ?_))); (case aB => exact bl); (case aF => exact (fun k_ hk => ⟨Kd.fresh' (Kd.R_lt (rU HO290.out)) k_ hk, Kd.fresh' (Kd.R_lt (rU HO293.out)) k_ hk⟩)); (case aO => exact (rU (Kd.R_mono HO_6.out (fun _ hk => ⟨hk.1.2, hk.2⟩)))); (case aS => exact bz); (case aL => have := LMc17.out; omega); intro v295 w23 ho hb hg hat; rw [← Ny294.out] at ho; have n_ := aC (Kd.R_after (ok := (fun k_ => some k_ ≠ (.slice Ao24 t291.length co24 : Value).ownBlock)) (rU (Kd.R_mono HO290.out (fun _ hk => ⟨hk.2, hk.1.2⟩))) hg hat) (aC (Kd.R_after (ok := (fun k_ => some k_ ≠ (.slice Ao21 y288.length co21 : Value).ownBlock)) (rU (Kd.R_mono HO293.out (fun _ hk => ⟨hk.2, hk.1.2⟩))) hg hat) (aC hb (aE ho))); clear HO290 HO293 HB HO_6; obtain ⟨HO290, HO293, HB, HO296⟩ := n_; clear ho hb hg hat))
               go_roundg k2
               case measure => have := HJ2.out; have := HK2.out; omega
               case rel => exact ⟨(y294), (wrap64 (x17_2 + 1)), rq, H', ⟨by have := HJ2.out; have := HK2.out; omega⟩, ⟨rU (Kd.R_mono HO296.out (fun _ hk => trivial))⟩, ⟨bl⟩⟩
              ·rw [if_neg c17] at H
               exact absurd H (by simp)
          ·rw [if_neg c10] at H
           have c10b0 := beq_eq_false_iff_ne.mpr c10
           have c10b1 := bne_iff_ne.mpr c10
           by_cases c25 : (rd l0 x17_2) > (wrap64 (a1 - (x6_2.length : Int)))
           ·rw [if_pos c25] at H
            have c25b0 := decide_eq_true c25
            clear c25
            simp only [Option.some.injEq, Prod.mk.injEq] at H
            obtain ⟨rfl, rfl⟩ := H
            have p287 : 0 ≤ (x17_2 : Int) := dt
            have q287 : x17_2 < (l0.length : Int) := dt
            obtain ⟨ad287, e287, hx287_0⟩ := Kd.at_int HR0.out x17_2 p287 q287
            cases e287
            replace hx287_0 := hcB HB.out hx287_0
            replace p287 := eq_true p287
            replace q287 := eq_true q287
            obtain ⟨Ao26, co26, eo26⟩ := Kd.R_slice HO_6.out
            subst eo26
            go_wp2
            go_ret2
            exact ⟨_, re, by first | exact Kd.R_nil _ _ _ _ _ | exact Kd.N_nil _ _ _ _ _ | exact Kd.V_nil _ _ _ _ _ | exact Kd.Q_nil _ _ _ _ _ | exact Kd.S_nil _ _ _ _ _, bl⟩
           ·rw [if_neg c25] at H
            have c25b0 := decide_eq_false c25
            clear c25
            by_cases c27 : (x6_2.length : Int) = a1
            ·rw [if_pos c27] at H
             have c27b0 := beq_iff_eq.mpr c27
             have c27b1 := bne_eq_false_iff_eq.mpr c27
             clear c27
             simp only [Option.some.injEq, Prod.mk.injEq] at H
             obtain ⟨rfl, rfl⟩ := H
             have p287 : 0 ≤ (x17_2 : Int) := dt
             have q287 : x17_2 < (l0.length : Int) := dt
             obtain ⟨ad287, e287, hx287_0⟩ := Kd.at_int HR0.out x17_2 p287 q287
             cases e287
             replace hx287_0 := hcB HB.out hx287_0
             replace p287 := eq_true p287
             replace q287 := eq_true q287
             obtain ⟨Ao28, co28, eo28⟩ := Kd.R_slice HO_6.out
             subst eo28
             go_wp2
             go_ret2
             exact ⟨_, re, by first | exact Kd.R_nil _ _ _ _ _ | exact Kd.N_nil _ _ _ _ _ | exact Kd.V_nil _ _ _ _ _ | exact Kd.Q_nil _ _ _ _ _ | exact Kd.S_nil _ _ _ _ _, bl⟩
            ·rw [if_neg c27] at H
             have c27b0 := beq_eq_false_iff_ne.mpr c27
             have c27b1 := bne_iff_ne.mpr c27
             obtain ⟨y297, hy_⟩ : ∃ y_ : List Int, y_ = (([(Int.tmod x17_2 2) % 256] : List Int)) := ⟨_, rfl⟩
             replace H : ((slices_Repeat_byte_byte.f k2 y297 (rd l0 x17_2)).bind fun t300 => (if x6_2.length + t300.length < 140737488355328 then (runs_FromRow.l0 k2 a1 (x6_2 ++ t300) l0 (l0.length : Int) (wrap64 (x17_2 + 1))) else (none))) = some (r1, r2) := rh
             have Ny297 := aE hy_
             clear hy_
             replace H := Option.bind_eq_some_iff.mp H
             obtain ⟨t300, A290, H⟩ := H
             replace H : (if x6_2.length + t300.length < 140737488355328 then (runs_FromRow.l0 k2 a1 (x6_2 ++ t300) l0 (l0.length : Int) (wrap64 (x17_2 + 1))) else (none)) = some (r1, r2) := H
             have A29 := Aside0.mk A290
             clear A290
             by_cases c30 : x6_2.length + t300.length < 140737488355328
             ·rw [if_pos c30] at H
              have LMc30 := Aside0.mk c30
              clear c30
              obtain ⟨y303, hy_⟩ : ∃ y_ : List Int, y_ = (x6_2 ++ t300) := ⟨_, rfl⟩
              replace H : (runs_FromRow.l0 k2 a1 y303 l0 (l0.length : Int) (wrap64 (x17_2 + 1))) = some (r1, r2) := rh
              have Ny303 := aE hy_
              clear hy_
              have H' := Aside0.mk H
              clear H
              have p287 : 0 ≤ (x17_2 : Int) := dt
              have q287 : x17_2 < (l0.length : Int) := dt
              obtain ⟨ad287, e287, hx287_0⟩ := Kd.at_int HR0.out x17_2 p287 q287
              cases e287
              replace hx287_0 := hcB HB.out hx287_0
              replace p287 := eq_true p287
              replace q287 := eq_true q287
              obtain ⟨Ao31, co31, eo31⟩ := Kd.R_slice HO_6.out
              subst eo31
              go_wp2_with (first | ((with_reducible refine gd 50 rfl ?_); (try (refine gate_guard (by rfl) ?_; dsimp only)); refine Kd.R_lit (Kd.int .u8) _ 5 ?hg (N := 50) ?hd (xs := ([(Int.tmod x17_2 2) % 256] : List Int)) (inner := [.int .u8 ((Int.tmod x17_2 2) % 256)]) (ok := fun _ => True) (okp := fun _ => True) ?hr ?hp (fun _ hk => hk) trivial (Below.refl _ _) (Nat.le_refl _) (by simp) ?_; (case hd => rfl); (case hg => rfl); (case hr => first | (go_simp; done) | (go_simp; rfl)); (case hp => exact (Reps.one (show Kd.M (Kd.int .u8) _ _ _ ((Int.tmod x17_2 2) % 256) [.int .u8 ((Int.tmod x17_2 2) % 256)] from rfl) (Reps.none _ _))); intro v298 w32 ho33 hb hg_ hnew_; clear hg_ hnew_; (first | rw [← Ny297.out] at ho33 | (simp only [Int.reduceToNat] at ho33; rw [← Ny297.out] at ho33)); have n_ := aC (Kd.R_elder' (rU HO_6.out) (Kd.R_base ho33) hb) (aC (Kd.R_lower (Kd.R_new' ho33 (Kd.R_lt (rU HO_6.out))) bz) (aE (bs hb))); clear HO_6 HB; obtain ⟨HO_6, HO299, HB⟩ := n_; clear hb ho33; obtain ⟨Ao34, co34, eo34⟩ := Kd.R_slice HO299.out; subst eo34) | ((with_reducible refine gf 45 rfl ?_); refine gL (some 52) rfl rfl Tryd.func45 rfl #[.slice Ao34 y297.length co34, .int .i64 (rd l0 x17_2)] rfl ?_; (with_reducible refine (slices_Repeat_byte_byte.calls k2 _ _ y297 (rd l0 x17_2) t300 _ ?side1 ?side2 A29.out).mono ?_); (case side1 => exact cU (Kd.R_reads' HO299.out).2.2); (case side2 => exact (Kd.R_reads' HO299.out).2.1); rintro e w35 ⟨v301, rfl, ho0, hb⟩; refine ⟨_, rfl, ?_⟩; have n_ := aC (Kd.R_elder' (rU HO_6.out) (Kd.R_base ho0) hb) (aC (Kd.R_elder' (rU HO299.out) (Kd.R_base ho0) hb) (aC (Kd.R_lower (Kd.R_new' (Kd.R_new' ho0 (Kd.R_lt (rU HO_6.out))) (Kd.R_lt (rU HO299.out))) bz) (aE (bs hb)))); clear HO_6 HO299 HB; obtain ⟨HO_6, HO299, HO302, HB⟩ := n_; (try clear hb); (try clear ho0); obtain ⟨Ao37, co37, eo37⟩ := Kd.R_slice HO302.out; subst eo37) | ((with_reducible refine gate_builtin (b := .append) (xs := #[.tmp 46, .tmp 52]) rfl ?_); (try (refine gate_guard (by rfl) ?_; dsimp only)); at_builtin; refine Kd.R_append_rows (Kd.int .u8) (w0 := w) w.heap.size rfl (.tmp 46) (.tmp 52) 22 5 (.int .u8 0) 1 rfl Tryd.underlying22 info5 rfl (by decide) (by omega) (.slice Ao31 x6_2.length co31) x6_2 t300 _ _ _ (fun k_ => some k_ ≠ (.slice Ao34 y297.length co34 : Value).ownBlock ∧ some k_ ≠ (.slice Ao37 t300.length co37 : Value).ownBlock) (fun _ => False) rfl rfl ?aO ?aR (fun _ _ h => h) (fun _ h => h.elim) ?aF ?aB ?aS ?aL ?_; (case aR => repeat (first | exact (Kd.R_reads' HO302.out).2.2 | (with_reducible refine Kd.C_alloc ?_ _) | (with_reducible refine Kd.C_drewN ?_ _) | (with_reducible refine Kd.C_drew ?_))); (case aB => exact bl); (case aF => exact (fun k_ hk => ⟨Kd.fresh' (Kd.R_lt (rU HO299.out)) k_ hk, Kd.fresh' (Kd.R_lt (rU HO302.out)) k_ hk⟩)); (case aO => exact (rU (Kd.R_mono HO_6.out (fun _ hk => ⟨hk.1.2, hk.2⟩)))); (case aS => exact bz); (case aL => have := LMc30.out; omega); intro v304 w36 ho hb hg hat; rw [← Ny303.out] at ho; have n_ := aC (Kd.R_after (ok := (fun k_ => some k_ ≠ (.slice Ao37 t300.length co37 : Value).ownBlock)) (rU (Kd.R_mono HO299.out (fun _ hk => ⟨hk.2, hk.1.2⟩))) hg hat) (aC (Kd.R_after (ok := (fun k_ => some k_ ≠ (.slice Ao34 y297.length co34 : Value).ownBlock)) (rU (Kd.R_mono HO302.out (fun _ hk => ⟨hk.2, hk.1.2⟩))) hg hat) (aC hb (aE ho))); clear HO299 HO302 HB HO_6; obtain ⟨HO299, HO302, HB, HO305⟩ := n_; clear ho hb hg hat))
              go_roundg k2
              case measure => have := HJ2.out; have := HK2.out; omega
              case rel => exact ⟨(y303), (wrap64 (x17_2 + 1)), rq, H', ⟨by have := HJ2.out; have := HK2.out; omega⟩, ⟨rU (Kd.R_mono HO305.out (fun _ hk => trivial))⟩, ⟨bl⟩⟩
             ·rw [if_neg c30] at H
              exact absurd H (by simp)
        ·rw [if_neg c8] at H
         exact absurd H (by simp)
       ·rw [if_neg c7] at H
        exact absurd H (by simp)
      ·rw [if_neg c6] at H
       have c6b0 := decide_eq_false c6
       clear c6
       by_cases c38 : (x6_2.length : Int) = a1
       ·rw [if_pos c38] at H
        have c38b0 := beq_iff_eq.mpr c38
        have c38b1 := bne_eq_false_iff_eq.mpr c38
        clear c38
        simp only [Option.some.injEq, Prod.mk.injEq] at H
        obtain ⟨rfl, rfl⟩ := H
        obtain ⟨Ao39, co39, eo39⟩ := Kd.R_slice HO_6.out
        subst eo39
        go_wp2
        go_ret2
        exact ⟨_, re, rU HO_6.out, bl⟩
       ·rw [if_neg c38] at H
        have c38b0 := beq_eq_false_iff_ne.mpr c38
        have c38b1 := bne_iff_ne.mpr c38
        simp only [Option.some.injEq, Prod.mk.injEq] at H
        obtain ⟨rfl, rfl⟩ := H
        obtain ⟨Ao40, co40, eo40⟩ := Kd.R_slice HO_6.out
        subst eo40
        go_wp2
        go_ret2
        exact ⟨_, re, by first | exact Kd.R_nil _ _ _ _ _ | exact Kd.N_nil _ _ _ _ _ | exact Kd.V_nil _ _ _ _ _ | exact Kd.Q_nil _ _ _ _ _ | exact Kd.S_nil _ _ _ _ _, bl⟩

end Go.Proofs.YtknclbodinfbeaaDoor.PRunsFromRow
