-- Written by a program of this session (wip/tools/myprint.py) over the kit's print. Not trusted: Lean checks it.
import Derived.Test.YtknclbodinfbeaaDoorPRunsGetTwox0
import Derived.Test.YtknclbodinfbeaaDoorPRunsGetTwox12
namespace Go.Proofs.YtknclbodinfbeaaDoor.PRunsGetTwo
open Go.RowKit Go.Proofs.YtknclbodinfbeaaDoorW.PrintWords Go.Proofs.YtknclbodinfbeaaDoorW.PrintLast Go.Proofs.YtknclbodinfbeaaDoorW.PrintMore
attribute [local go_sem] max2_int min2_int max_two min_two max_three min_three max_four min_four   -- for this text's walks alone
set_option linter.unusedVariables false
set_option linter.unusedSimpArgs false
mutual
def incunableref06_take.l0 : Nat → List Int → Int → List Int → Option (ByteArray × Int × Int × Int)
 | 0, _, _, _ => none
 | k + 1, x0, x1, x8 => (incunableref04_BitAt.f x0 (wrap64 (x1 + (x8.length : Int)))).bind fun bt394 => (if bt394.2 = true then (if x8.length < 140737488355328 then ((some (x8 ++ [(wrap64 (48 + bt394.1)) % 256] : List Int)).bind fun y396 => (if (strOfNums y396).toList = ([48, 48, 48, 49] : List UInt8) then (some ((⟨#[112, 97, 115, 115]⟩ : ByteArray), 0, wrap64 (x1 + 4), 0)) else (if (strOfNums y396).toList = ([48, 48, 49] : List UInt8) then (some ((⟨#[102, 108, 97, 116]⟩ : ByteArray), 0, wrap64 (x1 + 3), 0)) else (if (y396.length : Int) < 4 then (if 0 ≤ (y396.length : Int) then (if (y396.length : Int) ≤ 4 then (if (strOfNums y396).toList = ((⟨#[48, 48, 48, 48]⟩ : ByteArray).extract 0 ((y396.length : Int) : Int).toNat).toList then (incunableref06_take.j1 k x0 x1 y396 (strOfNums y396) true) else (if (strOfNums y396).toList = ([48, 48, 48, 48] : List UInt8) then (incunableref06_take.j1 k x0 x1 y396 (strOfNums y396) true) else (if (strOfNums y396).toList = ([48, 48, 48, 48, 48] : List UInt8) then (incunableref06_take.j1 k x0 x1 y396 (strOfNums y396) true) else (if (strOfNums y396).toList = ([48, 48, 48, 48, 48, 49] : List UInt8) then (incunableref06_take.j1 k x0 x1 y396 (strOfNums y396) true) else (if (strOfNums y396).toList = ([48, 48, 48, 48, 49] : List UInt8) then (incunableref06_take.j1 k x0 x1 y396 (strOfNums y396) true) else (incunableref06_take.j1 k x0 x1 y396 (strOfNums y396) ((strOfNums y396).toList == ([48, 49] : List UInt8)))))))) else (none)) else (none)) else (if (strOfNums y396).toList = ([48, 48, 48, 48] : List UInt8) then (incunableref06_take.j1 k x0 x1 y396 (strOfNums y396) true) else (if (strOfNums y396).toList = ([48, 48, 48, 48, 48] : List UInt8) then (incunableref06_take.j1 k x0 x1 y396 (strOfNums y396) true) else (if (strOfNums y396).toList = ([48, 48, 48, 48, 48, 49] : List UInt8) then (incunableref06_take.j1 k x0 x1 y396 (strOfNums y396) true) else (if (strOfNums y396).toList = ([48, 48, 48, 48, 49] : List UInt8) then (incunableref06_take.j1 k x0 x1 y396 (strOfNums y396) true) else (incunableref06_take.j1 k x0 x1 y396 (strOfNums y396) ((strOfNums y396).toList == ([48, 49] : List UInt8))))))))))) else (none)) else (some ((⟨#[]⟩ : ByteArray), 0, 0, 6)))
def incunableref06_take.j1 : Nat → List Int → Int → List Int → ByteArray → Bool → Option (ByteArray × Int × Int × Int)
 | 0, _, _, _, _, _ => none
 | k + 1, x0, x1, x8, x11, x12 => incunableref06_take.l1 k x0 x1 x8 x11 x12 (-3)
def incunableref06_take.l1 : Nat → List Int → Int → List Int → ByteArray → Bool → Int → Option (ByteArray × Int × Int × Int)
 | 0, _, _, _, _, _, _ => none
 | k + 1, x0, x1, x8, x11, x12, x13 => if x13 ≤ 3 then ((incunableref06_upright.f x13).bind fun t399 => (if x11.toList = t399.toList then (some ((⟨#[117, 112]⟩ : ByteArray), x13, wrap64 (x1 + (x8.length : Int)), 0)) else (incunableref06_take.l1 k x0 x1 x8 x11 x12 (wrap64 (x13 + 1))))) else (if x12 = true then (incunableref06_take.l0 k x0 x1 x8) else (some ((⟨#[]⟩ : ByteArray), 0, 0, 3)))
end
def incunableref06_take.f (k : Nat) (l0 : List Int) (a1 : Int) : Option (ByteArray × Int × Int × Int) := incunableref06_take.l0 k l0 a1 ([] : List Int)
theorem incunableref06_take.mono_l : ∀ k, (∀ y0 y1 y2, LeO (incunableref06_take.l0 k y0 y1 y2) (incunableref06_take.l0 (k + 1) y0 y1 y2)) ∧ (∀ y0 y1 y2 y3 y4, LeO (incunableref06_take.j1 k y0 y1 y2 y3 y4) (incunableref06_take.j1 (k + 1) y0 y1 y2 y3 y4)) ∧ (∀ y0 y1 y2 y3 y4 y5, LeO (incunableref06_take.l1 k y0 y1 y2 y3 y4 y5) (incunableref06_take.l1 (k + 1) y0 y1 y2 y3 y4 y5))
 | 0 => ⟨fun _ _ _ r h => by simp [incunableref06_take.l0] at h, fun _ _ _ _ _ r h => by simp [incunableref06_take.j1] at h, fun _ _ _ _ _ _ r h => by simp [incunableref06_take.l1] at h⟩
 | k + 1 => by
  obtain ⟨ih0, ih1, ih2⟩ := incunableref06_take.mono_l k
  refine ⟨?_, ?_, ?_⟩
  ·intro y0 y1 y2
   unfold incunableref06_take.l0
   repeat' first
   | (with_reducible exact ih0 _ _ _)
   | (with_reducible exact ih1 _ _ _ _ _)
   | (with_reducible exact ih2 _ _ _ _ _ _)
   | (with_reducible first | exact LeO.refl _ | exact LeO.none _ | refine LeO.ite ?_ ?_ | refine LeO.bind ?_ (fun _ => ?_))
   | exact ih0 _ _ _
   | exact ih1 _ _ _ _ _
   | exact ih2 _ _ _ _ _ _
   | exact LeO.none _ | refine LeO.ite ?_ ?_ | refine LeO.bind ?_ (fun _ => ?_)
  ·intro y0 y1 y2 y3 y4
   unfold incunableref06_take.j1
   repeat' first
   | (with_reducible exact ih0 _ _ _)
   | (with_reducible exact ih1 _ _ _ _ _)
   | (with_reducible exact ih2 _ _ _ _ _ _)
   | (with_reducible first | exact LeO.refl _ | exact LeO.none _ | refine LeO.ite ?_ ?_ | refine LeO.bind ?_ (fun _ => ?_))
   | exact ih0 _ _ _
   | exact ih1 _ _ _ _ _
   | exact ih2 _ _ _ _ _ _
   | exact LeO.none _ | refine LeO.ite ?_ ?_ | refine LeO.bind ?_ (fun _ => ?_)
  ·intro y0 y1 y2 y3 y4 y5
   unfold incunableref06_take.l1
   repeat' first
   | (with_reducible exact ih0 _ _ _)
   | (with_reducible exact ih1 _ _ _ _ _)
   | (with_reducible exact ih2 _ _ _ _ _ _)
   | (with_reducible first | exact LeO.refl _ | exact LeO.none _ | refine LeO.ite ?_ ?_ | refine LeO.bind ?_ (fun _ => ?_))
   | exact ih0 _ _ _
   | exact ih1 _ _ _ _ _
   | exact ih2 _ _ _ _ _ _
   | exact LeO.none _ | refine LeO.ite ?_ ?_ | refine LeO.bind ?_ (fun _ => ?_)
theorem incunableref06_take.mono : ∀ a0 a1 k, LeO (incunableref06_take.f k a0 a1) (incunableref06_take.f (k + 1) a0 a1) := by
 intro a0 a1 k
 obtain ⟨ih0, ih1, ih2⟩ := incunableref06_take.mono_l k
 unfold incunableref06_take.f
 repeat' first
   | (with_reducible exact ih0 _ _ _)
   | (with_reducible exact ih1 _ _ _ _ _)
   | (with_reducible exact ih2 _ _ _ _ _ _)
   | (with_reducible first | exact LeO.refl _ | exact LeO.none _ | refine LeO.ite ?_ ?_ | refine LeO.bind ?_ (fun _ => ?_))
   | exact ih0 _ _ _
   | exact ih1 _ _ _ _ _
   | exact ih2 _ _ _ _ _ _
   | exact LeO.none _ | refine LeO.ite ?_ ?_ | refine LeO.bind ?_ (fun _ => ?_)
set_option maxHeartbeats 8000000 in
set_option maxRecDepth 100000 in
theorem incunableref06_take.calls (k : Nat) (A0 : Option Addr) (c0 : Nat) (l0 : List Int) (a1 : Int) (r1 : ByteArray) (r2 : Int) (r3 : Int) (r4 : Int) (w : World) (hr0 : Kd.C (Kd.int .u8) w A0 l0.length l0) (hc0 : l0.length ≤ c0) (h : incunableref06_take.f k l0 a1 = some (r1, r2, r3, r4)) :
  Calls Tryd.prog 99 #[.slice A0 l0.length c0, .int .i64 a1] w fun e w' => e = .returned (.tuple #[.string r1, .int .i64 r2, .int .i64 r3, .int .i64 r4]) ∧ Below w.heap.size w w' := by
 have HR0 := Aside0.mk hr0
 have HC0 := Aside0.mk hc0
 clear hr0 hc0
 have HB := Aside0.mk (Below.refl w.heap.size w)
 have H : (incunableref06_take.l0 k l0 a1 ([] : List Int)) = some (r1, r2, r3, r4) := h
 clear h
 have H' := Aside0.mk H
 clear H
 go_enter Tryd.func99, Tryd.ntmps99
 go_wp2
 go_loopg [8] k (fun kq v8 w' => ∃ (x8_1 : List Int), Aside0 (incunableref06_take.l0 kq l0 a1 x8_1 = some (r1, r2, r3, r4)) ∧ Aside0 (kq ≤ k) ∧ Aside0 (Kd.R (Kd.int .u8) 5 w' w.heap.size (fun _ => True) v8 x8_1) ∧ Aside0 (Below w.heap.size w w'))
 case atStart => exact ⟨(([] : List Int)), H', ⟨Nat.le_refl _⟩, ⟨by first | exact Kd.R_nil _ _ _ _ _ | exact Kd.N_nil _ _ _ _ _ | exact Kd.V_nil _ _ _ _ _ | exact Kd.Q_nil _ _ _ _ _ | exact Kd.S_nil _ _ _ _ _⟩, ⟨bl⟩⟩
 case round =>
  clear H'
  obtain ⟨x8_1, HA, HK1, HO_8, HB⟩ := hrel
  cases gk with
  | zero => exact absurd HA.out (by simp [incunableref06_take.l0])
  | succ k1 =>
   have H := HA.out
   clear HA
   simp only [incunableref06_take.l0] at H
   replace H := Option.bind_eq_some_iff.mp H
   obtain ⟨⟨t394, t395⟩, A30, H⟩ := H
   replace H : (if t395 = true then (if x8_1.length < 140737488355328 then ((some (x8_1 ++ [(wrap64 (48 + t394)) % 256] : List Int)).bind fun y396 => (if (strOfNums y396).toList = ([48, 48, 48, 49] : List UInt8) then (some ((⟨#[112, 97, 115, 115]⟩ : ByteArray), 0, wrap64 (a1 + 4), 0)) else (if (strOfNums y396).toList = ([48, 48, 49] : List UInt8) then (some ((⟨#[102, 108, 97, 116]⟩ : ByteArray), 0, wrap64 (a1 + 3), 0)) else (if (y396.length : Int) < 4 then (if 0 ≤ (y396.length : Int) then (if (y396.length : Int) ≤ 4 then (if (strOfNums y396).toList = ((⟨#[48, 48, 48, 48]⟩ : ByteArray).extract 0 ((y396.length : Int) : Int).toNat).toList then (incunableref06_take.j1 k1 l0 a1 y396 (strOfNums y396) true) else (if (strOfNums y396).toList = ([48, 48, 48, 48] : List UInt8) then (incunableref06_take.j1 k1 l0 a1 y396 (strOfNums y396) true) else (if (strOfNums y396).toList = ([48, 48, 48, 48, 48] : List UInt8) then (incunableref06_take.j1 k1 l0 a1 y396 (strOfNums y396) true) else (if (strOfNums y396).toList = ([48, 48, 48, 48, 48, 49] : List UInt8) then (incunableref06_take.j1 k1 l0 a1 y396 (strOfNums y396) true) else (if (strOfNums y396).toList = ([48, 48, 48, 48, 49] : List UInt8) then (incunableref06_take.j1 k1 l0 a1 y396 (strOfNums y396) true) else (incunableref06_take.j1 k1 l0 a1 y396 (strOfNums y396) ((strOfNums y396).toList == ([48, 49] : List UInt8)))))))) else (none)) else (none)) else (if (strOfNums y396).toList = ([48, 48, 48, 48] : List UInt8) then (incunableref06_take.j1 k1 l0 a1 y396 (strOfNums y396) true) else (if (strOfNums y396).toList = ([48, 48, 48, 48, 48] : List UInt8) then (incunableref06_take.j1 k1 l0 a1 y396 (strOfNums y396) true) else (if (strOfNums y396).toList = ([48, 48, 48, 48, 48, 49] : List UInt8) then (incunableref06_take.j1 k1 l0 a1 y396 (strOfNums y396) true) else (if (strOfNums y396).toList = ([48, 48, 48, 48, 49] : List UInt8) then (incunableref06_take.j1 k1 l0 a1 y396 (strOfNums y396) true) else (incunableref06_take.j1 k1 l0 a1 y396 (strOfNums y396) ((strOfNums y396).toList == ([48, 49] : List UInt8))))))))))) else (none)) else (some ((⟨#[]⟩ : ByteArray), 0, 0, 6))) = some (r1, r2, r3, r4) := H
   have A3 := Aside0.mk A30
   clear A30
   by_cases c4 : t395 = true
   ·subst c4
    have H1 : (if x8_1.length < 140737488355328 then ((some (x8_1 ++ [(wrap64 (48 + t394)) % 256] : List Int)).bind fun y396 => (if (strOfNums y396).toList = ([48, 48, 48, 49] : List UInt8) then (some ((⟨#[112, 97, 115, 115]⟩ : ByteArray), 0, wrap64 (a1 + 4), 0)) else (if (strOfNums y396).toList = ([48, 48, 49] : List UInt8) then (some ((⟨#[102, 108, 97, 116]⟩ : ByteArray), 0, wrap64 (a1 + 3), 0)) else (if (y396.length : Int) < 4 then (if 0 ≤ (y396.length : Int) then (if (y396.length : Int) ≤ 4 then (if (strOfNums y396).toList = ((⟨#[48, 48, 48, 48]⟩ : ByteArray).extract 0 ((y396.length : Int) : Int).toNat).toList then (incunableref06_take.j1 k1 l0 a1 y396 (strOfNums y396) true) else (if (strOfNums y396).toList = ([48, 48, 48, 48] : List UInt8) then (incunableref06_take.j1 k1 l0 a1 y396 (strOfNums y396) true) else (if (strOfNums y396).toList = ([48, 48, 48, 48, 48] : List UInt8) then (incunableref06_take.j1 k1 l0 a1 y396 (strOfNums y396) true) else (if (strOfNums y396).toList = ([48, 48, 48, 48, 48, 49] : List UInt8) then (incunableref06_take.j1 k1 l0 a1 y396 (strOfNums y396) true) else (if (strOfNums y396).toList = ([48, 48, 48, 48, 49] : List UInt8) then (incunableref06_take.j1 k1 l0 a1 y396 (strOfNums y396) true) else (incunableref06_take.j1 k1 l0 a1 y396 (strOfNums y396) ((strOfNums y396).toList == ([48, 49] : List UInt8)))))))) else (none)) else (none)) else (if (strOfNums y396).toList = ([48, 48, 48, 48] : List UInt8) then (incunableref06_take.j1 k1 l0 a1 y396 (strOfNums y396) true) else (if (strOfNums y396).toList = ([48, 48, 48, 48, 48] : List UInt8) then (incunableref06_take.j1 k1 l0 a1 y396 (strOfNums y396) true) else (if (strOfNums y396).toList = ([48, 48, 48, 48, 48, 49] : List UInt8) then (incunableref06_take.j1 k1 l0 a1 y396 (strOfNums y396) true) else (if (strOfNums y396).toList = ([48, 48, 48, 48, 49] : List UInt8) then (incunableref06_take.j1 k1 l0 a1 y396 (strOfNums y396) true) else (incunableref06_take.j1 k1 l0 a1 y396 (strOfNums y396) ((strOfNums y396).toList == ([48, 49] : List UInt8))))))))))) else (none)) = some (r1, r2, r3, r4) := by rw [if_pos rfl] at H; exact H
    clear H
    have H := H1
    clear H1
    by_cases c5 : x8_1.length < 140737488355328
    ·rw [if_pos c5] at H
     have LMc5 := Aside0.mk c5
     clear c5
     obtain ⟨y396, hy_⟩ : ∃ y_ : List Int, y_ = (x8_1 ++ [(wrap64 (48 + t394)) % 256]) := ⟨_, rfl⟩
     replace H : (if (strOfNums y396).toList = ([48, 48, 48, 49] : List UInt8) then (some ((⟨#[112, 97, 115, 115]⟩ : ByteArray), 0, wrap64 (a1 + 4), 0)) else (if (strOfNums y396).toList = ([48, 48, 49] : List UInt8) then (some ((⟨#[102, 108, 97, 116]⟩ : ByteArray), 0, wrap64 (a1 + 3), 0)) else (if (y396.length : Int) < 4 then (if 0 ≤ (y396.length : Int) then (if (y396.length : Int) ≤ 4 then (if (strOfNums y396).toList = ((⟨#[48, 48, 48, 48]⟩ : ByteArray).extract 0 ((y396.length : Int) : Int).toNat).toList then (incunableref06_take.j1 k1 l0 a1 y396 (strOfNums y396) true) else (if (strOfNums y396).toList = ([48, 48, 48, 48] : List UInt8) then (incunableref06_take.j1 k1 l0 a1 y396 (strOfNums y396) true) else (if (strOfNums y396).toList = ([48, 48, 48, 48, 48] : List UInt8) then (incunableref06_take.j1 k1 l0 a1 y396 (strOfNums y396) true) else (if (strOfNums y396).toList = ([48, 48, 48, 48, 48, 49] : List UInt8) then (incunableref06_take.j1 k1 l0 a1 y396 (strOfNums y396) true) else (if (strOfNums y396).toList = ([48, 48, 48, 48, 49] : List UInt8) then (incunableref06_take.j1 k1 l0 a1 y396 (strOfNums y396) true) else (incunableref06_take.j1 k1 l0 a1 y396 (strOfNums y396) ((strOfNums y396).toList == ([48, 49] : List UInt8)))))))) else (none)) else (none)) else (if (strOfNums y396).toList = ([48, 48, 48, 48] : List UInt8) then (incunableref06_take.j1 k1 l0 a1 y396 (strOfNums y396) true) else (if (strOfNums y396).toList = ([48, 48, 48, 48, 48] : List UInt8) then (incunableref06_take.j1 k1 l0 a1 y396 (strOfNums y396) true) else (if (strOfNums y396).toList = ([48, 48, 48, 48, 48, 49] : List UInt8) then (incunableref06_take.j1 k1 l0 a1 y396 (strOfNums y396) true) else (if (strOfNums y396).toList = ([48, 48, 48, 48, 49] : List UInt8) then (incunableref06_take.j1 k1 l0 a1 y396 (strOfNums y396) true) else (incunableref06_take.j1 k1 l0 a1 y396 (strOfNums y396) ((strOfNums y396).toList == ([48, 49] : List UInt8)))))))))) = some (r1, r2, r3, r4) := rh
     have Ny396 := aE hy_
     clear hy_
     by_cases c6 : (strOfNums y396).toList = ([48, 48, 48, 49] : List UInt8)
     ·rw [if_pos c6] at H
      have c6b0 := beq_iff_eq.mpr c6
      have c6b1 := bne_eq_false_iff_eq.mpr c6
      clear c6
      simp only [Option.some.injEq, Prod.mk.injEq] at H
      obtain ⟨rfl, rfl, rfl, rfl⟩ := H
      obtain ⟨Ao7, co7, eo7⟩ := Kd.R_slice HO_8.out
      subst eo7
      go_wp2_with (first | ((with_reducible refine gf 35 rfl ?_); refine gL (some 20) rfl rfl Tryd.func35 rfl #[.slice A0 l0.length c0, .int .i64 (wrap64 (a1 + (x8_1.length : Int)))] rfl ?_; (with_reducible refine (incunableref04_BitAt.calls _ _ l0 (wrap64 (a1 + (x8_1.length : Int))) t394 true _ ?side1 ?side2 A3.out).mono ?_); (case side1 => exact cU (Kd.C_below HR0.out HB.out)); (case side2 => exact HC0.out); rintro e w' ⟨rfl, ⟨nd, rfl⟩⟩; refine ⟨_, rfl, ?_⟩) | ((with_reducible refine gate_builtin (b := .append) (xs := #[.tmp 25, .tmp 29]) rfl ?_); (try (refine gate_guard (by rfl) ?_; dsimp only)); at_builtin; refine Kd.R_append (Kd.int .u8) (w0 := w) w.heap.size rfl (.tmp 25) (.tmp 29) 22 5 (.int .u8 0) 1 rfl Tryd.underlying22 info5 rfl (by decide) (by omega) (.slice Ao7 x8_1.length co7) x8_1 ((wrap64 (48 + t394)) % 256) [.int .u8 ((wrap64 (48 + t394)) % 256)] (fun _ => True) (fun _ => False) rfl rfl ?aP (fun _ hk => hk.elim) ?aF ?aO ?aB ?aS ?aL ?_; (case aP => exact rfl); (case aB => exact bl); (case aF => exact (fun _ _ => trivial)); (case aO => exact (rU HO_8.out)); (case aS => exact bz); (case aL => have := LMc5.out; omega); intro v397 w8 ho hb hg hat; rw [← Ny396.out] at ho; have n_ := aC hb (aE ho); clear HB HO_8; obtain ⟨HB, HO398⟩ := n_; clear ho hb hg hat; have hcv9 := own_string (P := Tryd.prog) Tryd.underlying22 Tryd.underlying5 Tryd.underlying9 (Kd.own_of_R HO398.out)))
      refine bodyPost_ret (results_list (rs := [.tmp 4, .tmp 5, .tmp 6, .tmp 7]) rfl (by simp) (.tmp (.tmp (.tmp (.tmp .nil))))) rfl ?_
      exact ⟨re, bl⟩
     ·rw [if_neg c6] at H
      have c6b0 := beq_eq_false_iff_ne.mpr c6
      have c6b1 := bne_iff_ne.mpr c6
      by_cases c10 : (strOfNums y396).toList = ([48, 48, 49] : List UInt8)
      ·rw [if_pos c10] at H
       have c10b0 := beq_iff_eq.mpr c10
       have c10b1 := bne_eq_false_iff_eq.mpr c10
       clear c10
       simp only [Option.some.injEq, Prod.mk.injEq] at H
       obtain ⟨rfl, rfl, rfl, rfl⟩ := H
       obtain ⟨Ao11, co11, eo11⟩ := Kd.R_slice HO_8.out
       subst eo11
       go_wp2_with (first | ((with_reducible refine gf 35 rfl ?_); refine gL (some 20) rfl rfl Tryd.func35 rfl #[.slice A0 l0.length c0, .int .i64 (wrap64 (a1 + (x8_1.length : Int)))] rfl ?_; (with_reducible refine (incunableref04_BitAt.calls _ _ l0 (wrap64 (a1 + (x8_1.length : Int))) t394 true _ ?side1 ?side2 A3.out).mono ?_); (case side1 => exact cU (Kd.C_below HR0.out HB.out)); (case side2 => exact HC0.out); rintro e w' ⟨rfl, ⟨nd, rfl⟩⟩; refine ⟨_, rfl, ?_⟩) | ((with_reducible refine gate_builtin (b := .append) (xs := #[.tmp 25, .tmp 29]) rfl ?_); (try (refine gate_guard (by rfl) ?_; dsimp only)); at_builtin; refine Kd.R_append (Kd.int .u8) (w0 := w) w.heap.size rfl (.tmp 25) (.tmp 29) 22 5 (.int .u8 0) 1 rfl Tryd.underlying22 info5 rfl (by decide) (by omega) (.slice Ao11 x8_1.length co11) x8_1 ((wrap64 (48 + t394)) % 256) [.int .u8 ((wrap64 (48 + t394)) % 256)] (fun _ => True) (fun _ => False) rfl rfl ?aP (fun _ hk => hk.elim) ?aF ?aO ?aB ?aS ?aL ?_; (case aP => exact rfl); (case aB => exact bl); (case aF => exact (fun _ _ => trivial)); (case aO => exact (rU HO_8.out)); (case aS => exact bz); (case aL => have := LMc5.out; omega); intro v397 w12 ho hb hg hat; rw [← Ny396.out] at ho; have n_ := aC hb (aE ho); clear HB HO_8; obtain ⟨HB, HO398⟩ := n_; clear ho hb hg hat; have hcv13 := own_string (P := Tryd.prog) Tryd.underlying22 Tryd.underlying5 Tryd.underlying9 (Kd.own_of_R HO398.out)))
       refine bodyPost_ret (results_list (rs := [.tmp 4, .tmp 5, .tmp 6, .tmp 7]) rfl (by simp) (.tmp (.tmp (.tmp (.tmp .nil))))) rfl ?_
       exact ⟨re, bl⟩
      ·rw [if_neg c10] at H
       have c10b0 := beq_eq_false_iff_ne.mpr c10
       have c10b1 := bne_iff_ne.mpr c10
       have HC14 := Aside0.mk H
       clear H
       obtain ⟨Ao15, co15, eo15⟩ := Kd.R_slice HO_8.out
       subst eo15
       go_upto_region 12 with (first | ((with_reducible refine gf 35 rfl ?_); refine gL (some 20) rfl rfl Tryd.func35 rfl #[.slice A0 l0.length c0, .int .i64 (wrap64 (a1 + (x8_1.length : Int)))] rfl ?_; (with_reducible refine (incunableref04_BitAt.calls _ _ l0 (wrap64 (a1 + (x8_1.length : Int))) t394 true _ ?side1 ?side2 A3.out).mono ?_); (case side1 => exact cU (Kd.C_below HR0.out HB.out)); (case side2 => exact HC0.out); rintro e w' ⟨rfl, ⟨nd, rfl⟩⟩; refine ⟨_, rfl, ?_⟩) | ((with_reducible refine gate_builtin (b := .append) (xs := #[.tmp 25, .tmp 29]) rfl ?_); (try (refine gate_guard (by rfl) ?_; dsimp only)); at_builtin; refine Kd.R_append (Kd.int .u8) (w0 := w) w.heap.size rfl (.tmp 25) (.tmp 29) 22 5 (.int .u8 0) 1 rfl Tryd.underlying22 info5 rfl (by decide) (by omega) (.slice Ao15 x8_1.length co15) x8_1 ((wrap64 (48 + t394)) % 256) [.int .u8 ((wrap64 (48 + t394)) % 256)] (fun _ => True) (fun _ => False) rfl rfl ?aP (fun _ hk => hk.elim) ?aF ?aO ?aB ?aS ?aL ?_; (case aP => exact rfl); (case aB => exact bl); (case aF => exact (fun _ _ => trivial)); (case aO => exact (rU HO_8.out)); (case aS => exact bz); (case aL => have := LMc5.out; omega); intro v397 w16 ho hb hg hat; rw [← Ny396.out] at ho; have n_ := aC hb (aE ho); clear HB HO_8; obtain ⟨HB, HO398⟩ := n_; clear ho hb hg hat; have hcv17 := own_string (P := Tryd.prog) Tryd.underlying22 Tryd.underlying5 Tryd.underlying9 (Kd.own_of_R HO398.out)))
       (try simp only [Act.put, List.setIfInBounds_toArray, List.set_cons_zero, List.set_cons_succ])
       go_cut [12] (fun v12 wc => ∃ (kq : Nat) (x12_13 : Bool), v12 = .bool x12_13 ∧ Aside0 (incunableref06_take.j1 kq l0 a1 y396 (strOfNums y396) x12_13 = some (r1, r2, r3, r4)) ∧ Aside0 (kq ≤ k1) ∧ Aside0 (Kd.R (Kd.int .u8) 5 wc w.heap.size (fun _ => True) v397 y396) ∧ Aside0 (Below w.heap.size w wc))
       case first =>
        have H := HC14.out
        clear HC14
        by_cases c18 : (y396.length : Int) < 4
        ·rw [if_pos c18] at H
         have c18b0 := decide_eq_true c18
         have c18b1 : decide (y396.length < 4) = true := decide_eq_true (by omega)
         clear c18
         (first | rw [c18b0] | (simp only [i64_w, i32_w]; rw [c18b0]) | skip)
         by_cases c19 : 0 ≤ (y396.length : Int)
         ·rw [if_pos c19] at H
          have c19b0 := eq_true c19
          have c19b1 := decide_eq_true c19
          clear c19
          by_cases c20 : (y396.length : Int) ≤ 4
          ·rw [if_pos c20] at H
           have c20b0 := eq_true c20
           have c20b1 := decide_eq_true c20
           clear c20
           by_cases c21 : (strOfNums y396).toList = ((⟨#[48, 48, 48, 48]⟩ : ByteArray).extract 0 ((y396.length : Int) : Int).toNat).toList
           ·rw [if_pos c21] at H
            have c21b0 := beq_iff_eq.mpr c21
            have c21b1 := bne_eq_false_iff_eq.mpr c21
            clear c21
            have H' := Aside0.mk H
            clear H
            obtain ⟨Ao22, co22, eo22⟩ := Kd.R_slice HO398.out
            subst eo22
            go_wp2
            all_goals first | (have hz_ := beq_iff_eq.mp c21b0; simp only [Int.toNat_natCast] at hz_; contradiction) | (go_meet; (case rel => exact ⟨_, (true), rq, H', ⟨by have := HK1.out; first | omega | exact Nat.le_refl _⟩, ⟨rU HO398.out⟩, ⟨bl⟩⟩))
           ·rw [if_neg c21] at H
            have c21b0 := beq_eq_false_iff_ne.mpr c21
            have c21b1 := bne_iff_ne.mpr c21
            by_cases c23 : (strOfNums y396).toList = ([48, 48, 48, 48] : List UInt8)
            ·rw [if_pos c23] at H
             have c23b0 := beq_iff_eq.mpr c23
             have c23b1 := bne_eq_false_iff_eq.mpr c23
             clear c23
             have H' := Aside0.mk H
             clear H
             obtain ⟨Ao24, co24, eo24⟩ := Kd.R_slice HO398.out
             subst eo24
             go_wp2
             go_meet
             case rel => exact ⟨_, (true), rq, H', ⟨by have := HK1.out; first | omega | exact Nat.le_refl _⟩, ⟨rU HO398.out⟩, ⟨bl⟩⟩
            ·rw [if_neg c23] at H
             have c23b0 := beq_eq_false_iff_ne.mpr c23
             have c23b1 := bne_iff_ne.mpr c23
             by_cases c25 : (strOfNums y396).toList = ([48, 48, 48, 48, 48] : List UInt8)
             ·rw [if_pos c25] at H
              have c25b0 := beq_iff_eq.mpr c25
              have c25b1 := bne_eq_false_iff_eq.mpr c25
              clear c25
              have H' := Aside0.mk H
              clear H
              obtain ⟨Ao26, co26, eo26⟩ := Kd.R_slice HO398.out
              subst eo26
              go_wp2
              go_meet
              case rel => exact ⟨_, (true), rq, H', ⟨by have := HK1.out; first | omega | exact Nat.le_refl _⟩, ⟨rU HO398.out⟩, ⟨bl⟩⟩
             ·rw [if_neg c25] at H
              have c25b0 := beq_eq_false_iff_ne.mpr c25
              have c25b1 := bne_iff_ne.mpr c25
              by_cases c27 : (strOfNums y396).toList = ([48, 48, 48, 48, 48, 49] : List UInt8)
              ·rw [if_pos c27] at H
               have c27b0 := beq_iff_eq.mpr c27
               have c27b1 := bne_eq_false_iff_eq.mpr c27
               clear c27
               have H' := Aside0.mk H
               clear H
               obtain ⟨Ao28, co28, eo28⟩ := Kd.R_slice HO398.out
               subst eo28
               go_wp2
               go_meet
               case rel => exact ⟨_, (true), rq, H', ⟨by have := HK1.out; first | omega | exact Nat.le_refl _⟩, ⟨rU HO398.out⟩, ⟨bl⟩⟩
              ·rw [if_neg c27] at H
               have c27b0 := beq_eq_false_iff_ne.mpr c27
               have c27b1 := bne_iff_ne.mpr c27
               by_cases c29 : (strOfNums y396).toList = ([48, 48, 48, 48, 49] : List UInt8)
               ·rw [if_pos c29] at H
                have c29b0 := beq_iff_eq.mpr c29
                have c29b1 := bne_eq_false_iff_eq.mpr c29
                clear c29
                have H' := Aside0.mk H
                clear H
                obtain ⟨Ao30, co30, eo30⟩ := Kd.R_slice HO398.out
                subst eo30
                go_wp2
                go_meet
                case rel => exact ⟨_, (true), rq, H', ⟨by have := HK1.out; first | omega | exact Nat.le_refl _⟩, ⟨rU HO398.out⟩, ⟨bl⟩⟩
               ·rw [if_neg c29] at H
                have c29b0 := beq_eq_false_iff_ne.mpr c29
                have c29b1 := bne_iff_ne.mpr c29
                have H' := Aside0.mk H
                clear H
                obtain ⟨Ao31, co31, eo31⟩ := Kd.R_slice HO398.out
                subst eo31
                go_wp2
                go_meet
                case rel => exact ⟨_, (((strOfNums y396).toList == ([48, 49] : List UInt8))), rq, H', ⟨by have := HK1.out; first | omega | exact Nat.le_refl _⟩, ⟨rU HO398.out⟩, ⟨bl⟩⟩
          ·rw [if_neg c20] at H
           exact absurd H (by simp)
         ·rw [if_neg c19] at H
          exact absurd H (by simp)
        ·rw [if_neg c18] at H
         have c18b0 := decide_eq_false c18
         have c18b1 : decide (y396.length < 4) = false := decide_eq_false (by omega)
         clear c18
         (first | rw [c18b0] | (simp only [i64_w, i32_w]; rw [c18b0]) | skip)
         by_cases c32 : (strOfNums y396).toList = ([48, 48, 48, 48] : List UInt8)
         ·rw [if_pos c32] at H
          have c32b0 := beq_iff_eq.mpr c32
          have c32b1 := bne_eq_false_iff_eq.mpr c32
          clear c32
          have H' := Aside0.mk H
          clear H
          obtain ⟨Ao33, co33, eo33⟩ := Kd.R_slice HO398.out
          subst eo33
          go_wp2
          go_meet
          case rel => exact ⟨_, (true), rq, H', ⟨by have := HK1.out; first | omega | exact Nat.le_refl _⟩, ⟨rU HO398.out⟩, ⟨bl⟩⟩
         ·rw [if_neg c32] at H
          have c32b0 := beq_eq_false_iff_ne.mpr c32
          have c32b1 := bne_iff_ne.mpr c32
          by_cases c34 : (strOfNums y396).toList = ([48, 48, 48, 48, 48] : List UInt8)
          ·rw [if_pos c34] at H
           have c34b0 := beq_iff_eq.mpr c34
           have c34b1 := bne_eq_false_iff_eq.mpr c34
           clear c34
           have H' := Aside0.mk H
           clear H
           obtain ⟨Ao35, co35, eo35⟩ := Kd.R_slice HO398.out
           subst eo35
           go_wp2
           go_meet
           case rel => exact ⟨_, (true), rq, H', ⟨by have := HK1.out; first | omega | exact Nat.le_refl _⟩, ⟨rU HO398.out⟩, ⟨bl⟩⟩
          ·rw [if_neg c34] at H
           have c34b0 := beq_eq_false_iff_ne.mpr c34
           have c34b1 := bne_iff_ne.mpr c34
           by_cases c36 : (strOfNums y396).toList = ([48, 48, 48, 48, 48, 49] : List UInt8)
           ·rw [if_pos c36] at H
            have c36b0 := beq_iff_eq.mpr c36
            have c36b1 := bne_eq_false_iff_eq.mpr c36
            clear c36
            have H' := Aside0.mk H
            clear H
            obtain ⟨Ao37, co37, eo37⟩ := Kd.R_slice HO398.out
            subst eo37
            go_wp2
            go_meet
            case rel => exact ⟨_, (true), rq, H', ⟨by have := HK1.out; first | omega | exact Nat.le_refl _⟩, ⟨rU HO398.out⟩, ⟨bl⟩⟩
           ·rw [if_neg c36] at H
            have c36b0 := beq_eq_false_iff_ne.mpr c36
            have c36b1 := bne_iff_ne.mpr c36
            by_cases c38 : (strOfNums y396).toList = ([48, 48, 48, 48, 49] : List UInt8)
            ·rw [if_pos c38] at H
             have c38b0 := beq_iff_eq.mpr c38
             have c38b1 := bne_eq_false_iff_eq.mpr c38
             clear c38
             have H' := Aside0.mk H
             clear H
             obtain ⟨Ao39, co39, eo39⟩ := Kd.R_slice HO398.out
             subst eo39
             go_wp2
             go_meet
             case rel => exact ⟨_, (true), rq, H', ⟨by have := HK1.out; first | omega | exact Nat.le_refl _⟩, ⟨rU HO398.out⟩, ⟨bl⟩⟩
            ·rw [if_neg c38] at H
             have c38b0 := beq_eq_false_iff_ne.mpr c38
             have c38b1 := bne_iff_ne.mpr c38
             have H' := Aside0.mk H
             clear H
             obtain ⟨Ao40, co40, eo40⟩ := Kd.R_slice HO398.out
             subst eo40
             go_wp2
             go_meet
             case rel => exact ⟨_, (((strOfNums y396).toList == ([48, 49] : List UInt8))), rq, H', ⟨by have := HK1.out; first | omega | exact Nat.le_refl _⟩, ⟨rU HO398.out⟩, ⟨bl⟩⟩
       case rest =>
        clear HC14
        obtain ⟨kq, x12_13, rfl, HA, HJ13, HO_8, HB⟩ := hcut
        cases kq with
        | zero => exact absurd HA.out (by simp [incunableref06_take.j1])
        | succ kj13 =>
         have H := HA.out
         clear HA
         simp only [incunableref06_take.j1] at H
         have H' := Aside0.mk H
         clear H
         go_wp2
         go_loopg [13] kj13 (fun kq v13 w' => ∃ (x13_3 : Int), v13 = .int .i64 x13_3 ∧ Aside0 (incunableref06_take.l1 kq l0 a1 y396 (strOfNums y396) x12_13 x13_3 = some (r1, r2, r3, r4)) ∧ Aside0 (kq ≤ kj13) ∧ Aside0 (Kd.R (Kd.int .u8) 5 w' w.heap.size (fun _ => True) v397 y396) ∧ Aside0 (Below w.heap.size w w'))
         case atStart => exact ⟨((-3)), rq, H', ⟨Nat.le_refl _⟩, ⟨rU HO_8.out⟩, ⟨bl⟩⟩
         case round =>
          clear H'
          obtain ⟨x13_3, rfl, HA, HK3, HO_8, HB⟩ := hrel
          cases gk with
          | zero => exact absurd HA.out (by simp [incunableref06_take.l1])
          | succ k3 =>
           have H := HA.out
           clear HA
           simp only [incunableref06_take.l1] at H
           by_cases c41 : x13_3 ≤ 3
           ·rw [if_pos c41] at H
            have c41b0 := decide_eq_true c41
            clear c41
            replace H := Option.bind_eq_some_iff.mp H
            obtain ⟨t399, A420, H⟩ := H
            replace H : (if (strOfNums y396).toList = t399.toList then (some ((⟨#[117, 112]⟩ : ByteArray), x13_3, wrap64 (a1 + (y396.length : Int)), 0)) else (incunableref06_take.l1 k3 l0 a1 y396 (strOfNums y396) x12_13 (wrap64 (x13_3 + 1)))) = some (r1, r2, r3, r4) := H
            have A42 := Aside0.mk A420
            clear A420
            by_cases c43 : (strOfNums y396).toList = t399.toList
            ·rw [if_pos c43] at H
             have c43b0 := beq_iff_eq.mpr c43
             have c43b1 := bne_eq_false_iff_eq.mpr c43
             clear c43
             simp only [Option.some.injEq, Prod.mk.injEq] at H
             obtain ⟨rfl, rfl, rfl, rfl⟩ := H
             go_wp2_with (first | ((with_reducible refine gf 73 rfl ?_); refine gL (some 78) rfl rfl Tryd.func73 rfl #[.int .i64 x13_3] rfl ?_; (with_reducible refine (incunableref06_upright.calls x13_3 t399 _ A42.out).mono ?_); rintro e w' ⟨rfl, ⟨nd, rfl⟩⟩; refine ⟨_, rfl, ?_⟩; obtain ⟨Ao44, co44, eo44⟩ := Kd.R_slice HO_8.out; subst eo44))
             refine bodyPost_ret (results_list (rs := [.tmp 4, .tmp 5, .tmp 6, .tmp 7]) rfl (by simp) (.tmp (.tmp (.tmp (.tmp .nil))))) rfl ?_
             exact ⟨re, bl⟩
            ·rw [if_neg c43] at H
             have c43b0 := beq_eq_false_iff_ne.mpr c43
             have c43b1 := bne_iff_ne.mpr c43
             have H' := Aside0.mk H
             clear H
             go_wp2_with (first | ((with_reducible refine gf 73 rfl ?_); refine gL (some 78) rfl rfl Tryd.func73 rfl #[.int .i64 x13_3] rfl ?_; (with_reducible refine (incunableref06_upright.calls x13_3 t399 _ A42.out).mono ?_); rintro e w' ⟨rfl, ⟨nd, rfl⟩⟩; refine ⟨_, rfl, ?_⟩))
             go_roundg k3
             case measure => have := HK1.out; have := HJ13.out; have := HK3.out; omega
             case rel => exact ⟨(wrap64 (x13_3 + 1)), rq, H', ⟨by have := HK1.out; have := HJ13.out; have := HK3.out; omega⟩, ⟨rU HO_8.out⟩, ⟨bl⟩⟩
           ·rw [if_neg c41] at H
            have c41b0 := decide_eq_false c41
            clear c41
            by_cases c45 : x12_13 = true
            ·subst c45
             have H1 : (incunableref06_take.l0 k3 l0 a1 y396) = some (r1, r2, r3, r4) := by rw [if_pos rfl] at H; exact H
             clear H
             have H := H1
             clear H1
             have H' := Aside0.mk H
             clear H
             go_wp2
             go_roundg k3
             case measure => have := HK1.out; have := HJ13.out; have := HK3.out; omega
             case rel => exact ⟨(y396), H', ⟨by have := HK1.out; have := HJ13.out; have := HK3.out; omega⟩, ⟨rU HO_8.out⟩, ⟨bl⟩⟩
            ·replace c45 := Bool.eq_false_iff.mpr c45
             subst c45
             have H1 : (some ((⟨#[]⟩ : ByteArray), 0, 0, 3)) = some (r1, r2, r3, r4) := by rw [if_neg (show ¬ (false = true) by decide)] at H; exact H
             clear H
             have H := H1
             clear H1
             simp only [Option.some.injEq, Prod.mk.injEq] at H
             obtain ⟨rfl, rfl, rfl, rfl⟩ := H
             go_wp2
             refine bodyPost_ret (results_list (rs := [.tmp 4, .tmp 5, .tmp 6, .tmp 7]) rfl (by simp) (.tmp (.tmp (.tmp (.tmp .nil))))) rfl ?_
             exact ⟨re, bl⟩
    ·rw [if_neg c5] at H
     exact absurd H (by simp)
   ·replace c4 := Bool.eq_false_iff.mpr c4
    subst c4
    have H1 : (some ((⟨#[]⟩ : ByteArray), 0, 0, 6)) = some (r1, r2, r3, r4) := by rw [if_neg (show ¬ (false = true) by decide)] at H; exact H
    clear H
    have H := H1
    clear H1
    simp only [Option.some.injEq, Prod.mk.injEq] at H
    obtain ⟨rfl, rfl, rfl, rfl⟩ := H
    obtain ⟨Ao46, co46, eo46⟩ := Kd.R_slice HO_8.out
    subst eo46
    go_wp2_with (first | ((with_reducible refine gf 35 rfl ?_); refine gL (some 20) rfl rfl Tryd.func35 rfl #[.slice A0 l0.length c0, .int .i64 (wrap64 (a1 + (x8_1.length : Int)))] rfl ?_; (with_reducible refine (incunableref04_BitAt.calls _ _ l0 (wrap64 (a1 + (x8_1.length : Int))) t394 false _ ?side1 ?side2 A3.out).mono ?_); (case side1 => exact cU (Kd.C_below HR0.out HB.out)); (case side2 => exact HC0.out); rintro e w' ⟨rfl, ⟨nd, rfl⟩⟩; refine ⟨_, rfl, ?_⟩))
    refine bodyPost_ret (results_list (rs := [.tmp 4, .tmp 5, .tmp 6, .tmp 7]) rfl (by simp) (.tmp (.tmp (.tmp (.tmp .nil))))) rfl ?_
    exact ⟨re, bl⟩
def incunableref06_paint.l0 : Nat → Int → Int → List Int → Option (List Int)
 | 0, _, _, _ => none
 | k + 1, x1, x2, x7 => if (x7.length : Int) < x1 then (if x7.length < 140737488355328 then (incunableref06_paint.l0 k x1 x2 (x7 ++ [(x2) % 256])) else (none)) else (some x7)
def incunableref06_paint.f (k : Nat) (l0 : List Int) (a1 : Int) (a2 : Int) : Option (List Int) := (some (([] : List Int) : List Int)).bind fun y400 => (if y400.length + l0.length < 140737488355328 then (incunableref06_paint.l0 k a1 a2 (y400 ++ l0)) else (none))
theorem incunableref06_paint.mono_l : ∀ k, (∀ y0 y1 y2, LeO (incunableref06_paint.l0 k y0 y1 y2) (incunableref06_paint.l0 (k + 1) y0 y1 y2))
 | 0 => fun _ _ _ r h => by simp [incunableref06_paint.l0] at h
 | k + 1 => by
  have ih0 := incunableref06_paint.mono_l k
  ·intro y0 y1 y2
   unfold incunableref06_paint.l0
   repeat' first
   | (with_reducible exact ih0 _ _ _)
   | (with_reducible first | exact LeO.refl _ | exact LeO.none _ | refine LeO.ite ?_ ?_ | refine LeO.bind ?_ (fun _ => ?_))
   | exact ih0 _ _ _
   | exact LeO.none _ | refine LeO.ite ?_ ?_ | refine LeO.bind ?_ (fun _ => ?_)
theorem incunableref06_paint.mono : ∀ a0 a1 a2 k, LeO (incunableref06_paint.f k a0 a1 a2) (incunableref06_paint.f (k + 1) a0 a1 a2) := by
 intro a0 a1 a2 k
 have ih0 := incunableref06_paint.mono_l k
 unfold incunableref06_paint.f
 repeat' first
   | (with_reducible exact ih0 _ _ _)
   | (with_reducible first | exact LeO.refl _ | exact LeO.none _ | refine LeO.ite ?_ ?_ | refine LeO.bind ?_ (fun _ => ?_))
   | exact ih0 _ _ _
   | exact LeO.none _ | refine LeO.ite ?_ ?_ | refine LeO.bind ?_ (fun _ => ?_)
set_option maxHeartbeats 8000000 in
set_option maxRecDepth 100000 in
theorem incunableref06_paint.calls (k : Nat) (A0 : Option Addr) (c0 : Nat) (l0 : List Int) (a1 : Int) (a2 : Int) (r : List Int) (w : World) (hr0 : Kd.C (Kd.int .u8) w A0 l0.length l0) (hc0 : l0.length ≤ c0) (h : incunableref06_paint.f k l0 a1 a2 = some r) :
  Calls Tryd.prog 100 #[.slice A0 l0.length c0, .int .i64 a1, .int .i64 a2] w fun e w' => ∃ v0_ : Value, e = .returned (v0_) ∧ Kd.R (Kd.int .u8) 5 w' w.heap.size (fun _ => True) v0_ r ∧ Below w.heap.size w w' := by
 have HR0 := Aside0.mk hr0
 have HC0 := Aside0.mk hc0
 clear hr0 hc0
 have HB := Aside0.mk (Below.refl w.heap.size w)
 have H : ((some (([] : List Int) : List Int)).bind fun y400 => (if y400.length + l0.length < 140737488355328 then (incunableref06_paint.l0 k a1 a2 (y400 ++ l0)) else (none))) = some r := h
 clear h
 obtain ⟨y400, hy_⟩ : ∃ y_ : List Int, y_ = (([] : List Int)) := ⟨_, rfl⟩
 replace H : (if y400.length + l0.length < 140737488355328 then (incunableref06_paint.l0 k a1 a2 (y400 ++ l0)) else (none)) = some r := rh
 have Ny400 := aE hy_
 clear hy_
 by_cases c4 : y400.length + l0.length < 140737488355328
 ·rw [if_pos c4] at H
  have LMc4 := Aside0.mk c4
  clear c4
  obtain ⟨y403, hy_⟩ : ∃ y_ : List Int, y_ = (y400 ++ l0) := ⟨_, rfl⟩
  replace H : (incunableref06_paint.l0 k a1 a2 y403) = some r := rh
  have Ny403 := aE hy_
  clear hy_
  have H' := Aside0.mk H
  clear H
  go_enter Tryd.func100, Tryd.ntmps100
  go_wp2_with (first | ((with_reducible refine gd 8 rfl ?_); refine Kd.R_lit (Kd.int .u8) _ 5 ?hg (N := 8) ?hd (xs := ([] : List Int)) (inner := []) (ok := fun _ => True) (okp := fun _ => True) ?hr ?hp (fun _ hk => hk) trivial (Below.refl _ _) (Nat.le_refl _) (by simp) ?_; (case hd => rfl); (case hg => rfl); (case hr => first | (go_simp; done) | (go_simp; rfl)); (case hp => exact (Reps.none _ _)); intro v401 w5 ho6 hb hg_ hnew_; clear hg_ hnew_; (first | rw [← Ny400.out] at ho6 | (simp only [Int.reduceToNat] at ho6; rw [← Ny400.out] at ho6)); have n_ := aC (Kd.R_lower ho6 bz) (aE (bs hb)); clear HB; obtain ⟨HO402, HB⟩ := n_; clear hb ho6) | ((with_reducible refine gate_builtin (b := .append) (xs := #[.tmp 8, .tmp 9]) rfl ?_); at_builtin; refine Kd.R_append_rows (Kd.int .u8) (w0 := w) w.heap.size rfl (.tmp 8) (.tmp 9) 22 5 (.int .u8 0) 1 rfl Tryd.underlying22 info5 rfl (by decide) (by omega) v401 y400 l0 _ _ _ (fun _ => True) (fun _ => False) rfl rfl ?aO ?aR (fun _ _ h => h) (fun _ h => h.elim) ?aF ?aB ?aS ?aL ?_; (case aR => repeat (first | exact (Kd.C_below HR0.out HB.out) | (with_reducible refine Kd.C_alloc ?_ _) | (with_reducible refine Kd.C_drewN ?_ _) | (with_reducible refine Kd.C_drew ?_))); (case aB => exact bl); (case aF => exact (fun _ _ => trivial)); (case aO => exact (rU HO402.out)); (case aS => exact bz); (case aL => have := LMc4.out; omega); intro v404 w7 ho hb hg hat; rw [← Ny403.out] at ho; have n_ := aC hb (aE ho); clear HB HO402; obtain ⟨HB, HO405⟩ := n_; clear ho hb hg hat))
  go_loopg [7] k (fun kq v7 w' => ∃ (x7_1 : List Int), Aside0 (incunableref06_paint.l0 kq a1 a2 x7_1 = some r) ∧ Aside0 (kq ≤ k) ∧ Aside0 (Kd.R (Kd.int .u8) 5 w' w.heap.size (fun _ => True) v7 x7_1) ∧ Aside0 (Below w.heap.size w w'))
  case atStart => exact ⟨(y403), H', ⟨Nat.le_refl _⟩, ⟨rU HO405.out⟩, ⟨bl⟩⟩
  case round =>
   clear H'
   obtain ⟨x7_1, HA, HK1, HO_7, HB⟩ := hrel
   cases gk with
   | zero => exact absurd HA.out (by simp [incunableref06_paint.l0])
   | succ k1 =>
    have H := HA.out
    clear HA
    simp only [incunableref06_paint.l0] at H
    by_cases c8 : (x7_1.length : Int) < a1
    ·rw [if_pos c8] at H
     have c8b0 := decide_eq_true c8
     clear c8
     by_cases c9 : x7_1.length < 140737488355328
     ·rw [if_pos c9] at H
      have LMc9 := Aside0.mk c9
      clear c9
      obtain ⟨y406, hy_⟩ : ∃ y_ : List Int, y_ = (x7_1 ++ [(a2) % 256]) := ⟨_, rfl⟩
      replace H : (incunableref06_paint.l0 k1 a1 a2 y406) = some r := rh
      have Ny406 := aE hy_
      clear hy_
      have H' := Aside0.mk H
      clear H
      obtain ⟨Ao10, co10, eo10⟩ := Kd.R_slice HO_7.out
      subst eo10
      go_wp2_with (first | ((with_reducible refine gate_builtin (b := .append) (xs := #[.tmp 15, .tmp 18]) rfl ?_); at_builtin; refine Kd.R_append (Kd.int .u8) (w0 := w) w.heap.size rfl (.tmp 15) (.tmp 18) 22 5 (.int .u8 0) 1 rfl Tryd.underlying22 info5 rfl (by decide) (by omega) (.slice Ao10 x7_1.length co10) x7_1 ((a2) % 256) [.int .u8 ((a2) % 256)] (fun _ => True) (fun _ => False) rfl rfl ?aP (fun _ hk => hk.elim) ?aF ?aO ?aB ?aS ?aL ?_; (case aP => exact rfl); (case aB => exact bl); (case aF => exact (fun _ _ => trivial)); (case aO => exact (rU HO_7.out)); (case aS => exact bz); (case aL => have := LMc9.out; omega); intro v407 w11 ho hb hg hat; rw [← Ny406.out] at ho; have n_ := aC hb (aE ho); clear HB HO_7; obtain ⟨HB, HO408⟩ := n_; clear ho hb hg hat))
      go_roundg k1
      case measure => have := HK1.out; omega
      case rel => exact ⟨(y406), H', ⟨by have := HK1.out; omega⟩, ⟨rU HO408.out⟩, ⟨bl⟩⟩
     ·rw [if_neg c9] at H
      exact absurd H (by simp)
    ·rw [if_neg c8] at H
     have c8b0 := decide_eq_false c8
     clear c8
     obtain rfl := Option.some.inj H
     obtain ⟨Ao12, co12, eo12⟩ := Kd.R_slice HO_7.out
     subst eo12
     go_wp2
     go_ret
     exact ⟨_, re, rU HO_7.out, bl⟩
 ·rw [if_neg c4] at H
  exact absurd H (by simp)
def incunableref04_Standard.f (a0 : Int) : Option ((List (S87))) := if a0 = 0 then (some (([(⟨1, 0, 0, 0⟩ : S87), (⟨2, 1, 1, 0⟩ : S87), (⟨3, 3, 3, 0⟩ : S87), (⟨4, 5, 11, 0⟩ : S87), (⟨5, 8, 43, 0⟩ : S87), (⟨5, 20, 299, 0⟩ : S87)] : List (S87)))) else (if a0 = 1 then (some (([(⟨1, 2, 0, 0⟩ : S87), (⟨2, 4, 4, 0⟩ : S87), (⟨3, 8, 20, 0⟩ : S87), (⟨4, 20, (-1), 1⟩ : S87), (⟨4, 0, 0, 2⟩ : S87)] : List (S87)))) else (if a0 = 2 then (some (([(⟨1, 0, 0, 0⟩ : S87), (⟨3, 2, 1, 0⟩ : S87), (⟨3, 2, (-1), 1⟩ : S87), (⟨3, 20, 5, 0⟩ : S87), (⟨3, 20, (-5), 1⟩ : S87)] : List (S87)))) else (some ([] : List (S87)))))
set_option maxHeartbeats 8000000 in
set_option maxRecDepth 100000 in
theorem incunableref04_Standard.calls (a0 : Int) (r : List (S87)) (w : World) (h : incunableref04_Standard.f a0 = some r) :
  Calls Tryd.prog 38 #[.int .i64 a0] w fun e w' => ∃ v0_ : Value, e = .returned (v0_) ∧ Kd.R k87 87 w' w.heap.size (fun _ => True) v0_ r ∧ Below w.heap.size w w' := by
 have hu87 := Tryd.underlying87
 have HB := Aside0.mk (Below.refl w.heap.size w)
 have H : (if a0 = 0 then (some (([(⟨1, 0, 0, 0⟩ : S87), (⟨2, 1, 1, 0⟩ : S87), (⟨3, 3, 3, 0⟩ : S87), (⟨4, 5, 11, 0⟩ : S87), (⟨5, 8, 43, 0⟩ : S87), (⟨5, 20, 299, 0⟩ : S87)] : List (S87)))) else (if a0 = 1 then (some (([(⟨1, 2, 0, 0⟩ : S87), (⟨2, 4, 4, 0⟩ : S87), (⟨3, 8, 20, 0⟩ : S87), (⟨4, 20, (-1), 1⟩ : S87), (⟨4, 0, 0, 2⟩ : S87)] : List (S87)))) else (if a0 = 2 then (some (([(⟨1, 0, 0, 0⟩ : S87), (⟨3, 2, 1, 0⟩ : S87), (⟨3, 2, (-1), 1⟩ : S87), (⟨3, 20, 5, 0⟩ : S87), (⟨3, 20, (-5), 1⟩ : S87)] : List (S87)))) else (some ([] : List (S87)))))) = some r := h
 clear h
 by_cases c2 : a0 = 0
 ·rw [if_pos c2] at H
  have c2b0 := beq_iff_eq.mpr c2
  have c2b1 := bne_eq_false_iff_eq.mpr c2
  clear c2
  obtain ⟨y409, hy_⟩ : ∃ y_ : List (S87), y_ = (([(⟨1, 0, 0, 0⟩ : S87), (⟨2, 1, 1, 0⟩ : S87), (⟨3, 3, 3, 0⟩ : S87), (⟨4, 5, 11, 0⟩ : S87), (⟨5, 8, 43, 0⟩ : S87), (⟨5, 20, 299, 0⟩ : S87)] : List (S87))) := ⟨_, rfl⟩
  replace H : (some y409) = some r := rh
  have Ny409 := aE hy_
  clear hy_
  obtain rfl := Option.some.inj H
  go_enter Tryd.func38, Tryd.ntmps38
  go_wp2_with (first | ((with_reducible refine gd 12 rfl ?_); refine Kd.R_lit k87 _ 87 ?hg (N := 12) ?hd (xs := ([(⟨1, 0, 0, 0⟩ : S87), (⟨2, 1, 1, 0⟩ : S87), (⟨3, 3, 3, 0⟩ : S87), (⟨4, 5, 11, 0⟩ : S87), (⟨5, 8, 43, 0⟩ : S87), (⟨5, 20, 299, 0⟩ : S87)] : List (S87))) (inner := [.int .i64 1, .int .i64 0, .int .i64 0, .int .i64 0, .int .i64 2, .int .i64 1, .int .i64 1, .int .i64 0, .int .i64 3, .int .i64 3, .int .i64 3, .int .i64 0, .int .i64 4, .int .i64 5, .int .i64 11, .int .i64 0, .int .i64 5, .int .i64 8, .int .i64 43, .int .i64 0, .int .i64 5, .int .i64 20, .int .i64 299, .int .i64 0]) (ok := fun _ => True) (okp := fun _ => True) ?hr ?hp (fun _ hk => hk) trivial (Below.refl _ _) (Nat.le_refl _) (by simp) ?_; (case hd => rfl); (case hg => rfl); (case hr => first | (go_simp; done) | (go_simp; rfl)); (case hp => exact (Reps.c4 (show Kd.M k87 _ _ _ (⟨1, 0, 0, 0⟩ : S87) [.int .i64 1, .int .i64 0, .int .i64 0, .int .i64 0] from (k87_mkM _ _ _ (⟨1, 0, 0, 0⟩ : S87) )) (Reps.c4 (show Kd.M k87 _ _ _ (⟨2, 1, 1, 0⟩ : S87) [.int .i64 2, .int .i64 1, .int .i64 1, .int .i64 0] from (k87_mkM _ _ _ (⟨2, 1, 1, 0⟩ : S87) )) (Reps.c4 (show Kd.M k87 _ _ _ (⟨3, 3, 3, 0⟩ : S87) [.int .i64 3, .int .i64 3, .int .i64 3, .int .i64 0] from (k87_mkM _ _ _ (⟨3, 3, 3, 0⟩ : S87) )) (Reps.c4 (show Kd.M k87 _ _ _ (⟨4, 5, 11, 0⟩ : S87) [.int .i64 4, .int .i64 5, .int .i64 11, .int .i64 0] from (k87_mkM _ _ _ (⟨4, 5, 11, 0⟩ : S87) )) (Reps.c4 (show Kd.M k87 _ _ _ (⟨5, 8, 43, 0⟩ : S87) [.int .i64 5, .int .i64 8, .int .i64 43, .int .i64 0] from (k87_mkM _ _ _ (⟨5, 8, 43, 0⟩ : S87) )) (Reps.c4 (show Kd.M k87 _ _ _ (⟨5, 20, 299, 0⟩ : S87) [.int .i64 5, .int .i64 20, .int .i64 299, .int .i64 0] from (k87_mkM _ _ _ (⟨5, 20, 299, 0⟩ : S87) )) (Reps.none _ _)))))))); intro v410 w3 ho4 hb hg_ hnew_; clear hg_ hnew_; (first | rw [← Ny409.out] at ho4 | (simp only [Int.reduceToNat] at ho4; rw [← Ny409.out] at ho4)); have n_ := aC (Kd.R_lower ho4 bz) (aE (bs hb)); clear HB; obtain ⟨HO411, HB⟩ := n_; clear hb ho4))
  go_ret
  exact ⟨_, re, rU HO411.out, bl⟩
 ·rw [if_neg c2] at H
  have c2b0 := beq_eq_false_iff_ne.mpr c2
  have c2b1 := bne_iff_ne.mpr c2
  by_cases c5 : a0 = 1
  ·rw [if_pos c5] at H
   have c5b0 := beq_iff_eq.mpr c5
   have c5b1 := bne_eq_false_iff_eq.mpr c5
   clear c5
   obtain ⟨y412, hy_⟩ : ∃ y_ : List (S87), y_ = (([(⟨1, 2, 0, 0⟩ : S87), (⟨2, 4, 4, 0⟩ : S87), (⟨3, 8, 20, 0⟩ : S87), (⟨4, 20, (-1), 1⟩ : S87), (⟨4, 0, 0, 2⟩ : S87)] : List (S87))) := ⟨_, rfl⟩
   replace H : (some y412) = some r := rh
   have Ny412 := aE hy_
   clear hy_
   obtain rfl := Option.some.inj H
   go_enter Tryd.func38, Tryd.ntmps38
   go_wp2_with (first | ((with_reducible refine gd 20 rfl ?_); refine Kd.R_lit k87 _ 87 ?hg (N := 20) ?hd (xs := ([(⟨1, 2, 0, 0⟩ : S87), (⟨2, 4, 4, 0⟩ : S87), (⟨3, 8, 20, 0⟩ : S87), (⟨4, 20, (-1), 1⟩ : S87), (⟨4, 0, 0, 2⟩ : S87)] : List (S87))) (inner := [.int .i64 1, .int .i64 2, .int .i64 0, .int .i64 0, .int .i64 2, .int .i64 4, .int .i64 4, .int .i64 0, .int .i64 3, .int .i64 8, .int .i64 20, .int .i64 0, .int .i64 4, .int .i64 20, .int .i64 (-1), .int .i64 1, .int .i64 4, .int .i64 0, .int .i64 0, .int .i64 2]) (ok := fun _ => True) (okp := fun _ => True) ?hr ?hp (fun _ hk => hk) trivial (Below.refl _ _) (Nat.le_refl _) (by simp) ?_; (case hd => rfl); (case hg => rfl); (case hr => first | (go_simp; done) | (go_simp; rfl)); (case hp => exact (Reps.c4 (show Kd.M k87 _ _ _ (⟨1, 2, 0, 0⟩ : S87) [.int .i64 1, .int .i64 2, .int .i64 0, .int .i64 0] from (k87_mkM _ _ _ (⟨1, 2, 0, 0⟩ : S87) )) (Reps.c4 (show Kd.M k87 _ _ _ (⟨2, 4, 4, 0⟩ : S87) [.int .i64 2, .int .i64 4, .int .i64 4, .int .i64 0] from (k87_mkM _ _ _ (⟨2, 4, 4, 0⟩ : S87) )) (Reps.c4 (show Kd.M k87 _ _ _ (⟨3, 8, 20, 0⟩ : S87) [.int .i64 3, .int .i64 8, .int .i64 20, .int .i64 0] from (k87_mkM _ _ _ (⟨3, 8, 20, 0⟩ : S87) )) (Reps.c4 (show Kd.M k87 _ _ _ (⟨4, 20, (-1), 1⟩ : S87) [.int .i64 4, .int .i64 20, .int .i64 (-1), .int .i64 1] from (k87_mkM _ _ _ (⟨4, 20, (-1), 1⟩ : S87) )) (Reps.c4 (show Kd.M k87 _ _ _ (⟨4, 0, 0, 2⟩ : S87) [.int .i64 4, .int .i64 0, .int .i64 0, .int .i64 2] from (k87_mkM _ _ _ (⟨4, 0, 0, 2⟩ : S87) )) (Reps.none _ _))))))); intro v413 w6 ho7 hb hg_ hnew_; clear hg_ hnew_; (first | rw [← Ny412.out] at ho7 | (simp only [Int.reduceToNat] at ho7; rw [← Ny412.out] at ho7)); have n_ := aC (Kd.R_lower ho7 bz) (aE (bs hb)); clear HB; obtain ⟨HO414, HB⟩ := n_; clear hb ho7))
   go_ret
   exact ⟨_, re, rU HO414.out, bl⟩
  ·rw [if_neg c5] at H
   have c5b0 := beq_eq_false_iff_ne.mpr c5
   have c5b1 := bne_iff_ne.mpr c5
   by_cases c8 : a0 = 2
   ·rw [if_pos c8] at H
    have c8b0 := beq_iff_eq.mpr c8
    have c8b1 := bne_eq_false_iff_eq.mpr c8
    clear c8
    obtain ⟨y415, hy_⟩ : ∃ y_ : List (S87), y_ = (([(⟨1, 0, 0, 0⟩ : S87), (⟨3, 2, 1, 0⟩ : S87), (⟨3, 2, (-1), 1⟩ : S87), (⟨3, 20, 5, 0⟩ : S87), (⟨3, 20, (-5), 1⟩ : S87)] : List (S87))) := ⟨_, rfl⟩
    replace H : (some y415) = some r := rh
    have Ny415 := aE hy_
    clear hy_
    obtain rfl := Option.some.inj H
    go_enter Tryd.func38, Tryd.ntmps38
    go_wp2_with (first | ((with_reducible refine gd 28 rfl ?_); refine Kd.R_lit k87 _ 87 ?hg (N := 28) ?hd (xs := ([(⟨1, 0, 0, 0⟩ : S87), (⟨3, 2, 1, 0⟩ : S87), (⟨3, 2, (-1), 1⟩ : S87), (⟨3, 20, 5, 0⟩ : S87), (⟨3, 20, (-5), 1⟩ : S87)] : List (S87))) (inner := [.int .i64 1, .int .i64 0, .int .i64 0, .int .i64 0, .int .i64 3, .int .i64 2, .int .i64 1, .int .i64 0, .int .i64 3, .int .i64 2, .int .i64 (-1), .int .i64 1, .int .i64 3, .int .i64 20, .int .i64 5, .int .i64 0, .int .i64 3, .int .i64 20, .int .i64 (-5), .int .i64 1]) (ok := fun _ => True) (okp := fun _ => True) ?hr ?hp (fun _ hk => hk) trivial (Below.refl _ _) (Nat.le_refl _) (by simp) ?_; (case hd => rfl); (case hg => rfl); (case hr => first | (go_simp; done) | (go_simp; rfl)); (case hp => exact (Reps.c4 (show Kd.M k87 _ _ _ (⟨1, 0, 0, 0⟩ : S87) [.int .i64 1, .int .i64 0, .int .i64 0, .int .i64 0] from (k87_mkM _ _ _ (⟨1, 0, 0, 0⟩ : S87) )) (Reps.c4 (show Kd.M k87 _ _ _ (⟨3, 2, 1, 0⟩ : S87) [.int .i64 3, .int .i64 2, .int .i64 1, .int .i64 0] from (k87_mkM _ _ _ (⟨3, 2, 1, 0⟩ : S87) )) (Reps.c4 (show Kd.M k87 _ _ _ (⟨3, 2, (-1), 1⟩ : S87) [.int .i64 3, .int .i64 2, .int .i64 (-1), .int .i64 1] from (k87_mkM _ _ _ (⟨3, 2, (-1), 1⟩ : S87) )) (Reps.c4 (show Kd.M k87 _ _ _ (⟨3, 20, 5, 0⟩ : S87) [.int .i64 3, .int .i64 20, .int .i64 5, .int .i64 0] from (k87_mkM _ _ _ (⟨3, 20, 5, 0⟩ : S87) )) (Reps.c4 (show Kd.M k87 _ _ _ (⟨3, 20, (-5), 1⟩ : S87) [.int .i64 3, .int .i64 20, .int .i64 (-5), .int .i64 1] from (k87_mkM _ _ _ (⟨3, 20, (-5), 1⟩ : S87) )) (Reps.none _ _))))))); intro v416 w9 ho10 hb hg_ hnew_; clear hg_ hnew_; (first | rw [← Ny415.out] at ho10 | (simp only [Int.reduceToNat] at ho10; rw [← Ny415.out] at ho10)); have n_ := aC (Kd.R_lower ho10 bz) (aE (bs hb)); clear HB; obtain ⟨HO417, HB⟩ := n_; clear hb ho10))
    go_ret
    exact ⟨_, re, rU HO417.out, bl⟩
   ·rw [if_neg c8] at H
    have c8b0 := beq_eq_false_iff_ne.mpr c8
    have c8b1 := bne_iff_ne.mpr c8
    obtain rfl := Option.some.inj H
    go_enter Tryd.func38, Tryd.ntmps38
    go_wp2
    go_ret
    exact ⟨_, re, by first | exact Kd.R_nil _ _ _ _ _ | exact Kd.N_nil _ _ _ _ _ | exact Kd.V_nil _ _ _ _ _ | exact Kd.Q_nil _ _ _ _ _ | exact Kd.S_nil _ _ _ _ _, bl⟩
def incunableref06_table.f (a0 : Int) : Option ((List (S87))) := if a0 = 0 then (some (([(⟨2, 2, 0, 0⟩ : S87), (⟨2, 3, 4, 0⟩ : S87), (⟨2, 4, 12, 0⟩ : S87), (⟨2, 6, 28, 0⟩ : S87)] : List (S87)))) else (some (([(⟨1, 1, 0, 0⟩ : S87), (⟨2, 1, 2, 0⟩ : S87), (⟨3, 2, 4, 0⟩ : S87), (⟨3, 6, 8, 0⟩ : S87)] : List (S87))))
set_option maxHeartbeats 8000000 in
set_option maxRecDepth 100000 in
theorem incunableref06_table.calls (a0 : Int) (r : List (S87)) (w : World) (h : incunableref06_table.f a0 = some r) :
  Calls Tryd.prog 39 #[.int .i64 a0] w fun e w' => ∃ v0_ : Value, e = .returned (v0_) ∧ Kd.R k87 87 w' w.heap.size (fun _ => True) v0_ r ∧ Below w.heap.size w w' := by
 have hu87 := Tryd.underlying87
 have HB := Aside0.mk (Below.refl w.heap.size w)
 have H : (if a0 = 0 then (some (([(⟨2, 2, 0, 0⟩ : S87), (⟨2, 3, 4, 0⟩ : S87), (⟨2, 4, 12, 0⟩ : S87), (⟨2, 6, 28, 0⟩ : S87)] : List (S87)))) else (some (([(⟨1, 1, 0, 0⟩ : S87), (⟨2, 1, 2, 0⟩ : S87), (⟨3, 2, 4, 0⟩ : S87), (⟨3, 6, 8, 0⟩ : S87)] : List (S87))))) = some r := h
 clear h
 by_cases c2 : a0 = 0
 ·rw [if_pos c2] at H
  have c2b0 := beq_iff_eq.mpr c2
  have c2b1 := bne_eq_false_iff_eq.mpr c2
  clear c2
  obtain ⟨y418, hy_⟩ : ∃ y_ : List (S87), y_ = (([(⟨2, 2, 0, 0⟩ : S87), (⟨2, 3, 4, 0⟩ : S87), (⟨2, 4, 12, 0⟩ : S87), (⟨2, 6, 28, 0⟩ : S87)] : List (S87))) := ⟨_, rfl⟩
  replace H : (some y418) = some r := rh
  have Ny418 := aE hy_
  clear hy_
  obtain rfl := Option.some.inj H
  go_enter Tryd.func39, Tryd.ntmps39
  go_wp2_with (first | ((with_reducible refine gd 9 rfl ?_); refine Kd.R_lit k87 _ 87 ?hg (N := 9) ?hd (xs := ([(⟨2, 2, 0, 0⟩ : S87), (⟨2, 3, 4, 0⟩ : S87), (⟨2, 4, 12, 0⟩ : S87), (⟨2, 6, 28, 0⟩ : S87)] : List (S87))) (inner := [.int .i64 2, .int .i64 2, .int .i64 0, .int .i64 0, .int .i64 2, .int .i64 3, .int .i64 4, .int .i64 0, .int .i64 2, .int .i64 4, .int .i64 12, .int .i64 0, .int .i64 2, .int .i64 6, .int .i64 28, .int .i64 0]) (ok := fun _ => True) (okp := fun _ => True) ?hr ?hp (fun _ hk => hk) trivial (Below.refl _ _) (Nat.le_refl _) (by simp) ?_; (case hd => rfl); (case hg => rfl); (case hr => first | (go_simp; done) | (go_simp; rfl)); (case hp => exact (Reps.c4 (show Kd.M k87 _ _ _ (⟨2, 2, 0, 0⟩ : S87) [.int .i64 2, .int .i64 2, .int .i64 0, .int .i64 0] from (k87_mkM _ _ _ (⟨2, 2, 0, 0⟩ : S87) )) (Reps.c4 (show Kd.M k87 _ _ _ (⟨2, 3, 4, 0⟩ : S87) [.int .i64 2, .int .i64 3, .int .i64 4, .int .i64 0] from (k87_mkM _ _ _ (⟨2, 3, 4, 0⟩ : S87) )) (Reps.c4 (show Kd.M k87 _ _ _ (⟨2, 4, 12, 0⟩ : S87) [.int .i64 2, .int .i64 4, .int .i64 12, .int .i64 0] from (k87_mkM _ _ _ (⟨2, 4, 12, 0⟩ : S87) )) (Reps.c4 (show Kd.M k87 _ _ _ (⟨2, 6, 28, 0⟩ : S87) [.int .i64 2, .int .i64 6, .int .i64 28, .int .i64 0] from (k87_mkM _ _ _ (⟨2, 6, 28, 0⟩ : S87) )) (Reps.none _ _)))))); intro v419 w3 ho4 hb hg_ hnew_; clear hg_ hnew_; (first | rw [← Ny418.out] at ho4 | (simp only [Int.reduceToNat] at ho4; rw [← Ny418.out] at ho4)); have n_ := aC (Kd.R_lower ho4 bz) (aE (bs hb)); clear HB; obtain ⟨HO420, HB⟩ := n_; clear hb ho4))
  go_ret
  exact ⟨_, re, rU HO420.out, bl⟩
 ·rw [if_neg c2] at H
  have c2b0 := beq_eq_false_iff_ne.mpr c2
  have c2b1 := bne_iff_ne.mpr c2
  obtain ⟨y421, hy_⟩ : ∃ y_ : List (S87), y_ = (([(⟨1, 1, 0, 0⟩ : S87), (⟨2, 1, 2, 0⟩ : S87), (⟨3, 2, 4, 0⟩ : S87), (⟨3, 6, 8, 0⟩ : S87)] : List (S87))) := ⟨_, rfl⟩
  replace H : (some y421) = some r := rh
  have Ny421 := aE hy_
  clear hy_
  obtain rfl := Option.some.inj H
  go_enter Tryd.func39, Tryd.ntmps39
  go_wp2_with (first | ((with_reducible refine gd 14 rfl ?_); refine Kd.R_lit k87 _ 87 ?hg (N := 14) ?hd (xs := ([(⟨1, 1, 0, 0⟩ : S87), (⟨2, 1, 2, 0⟩ : S87), (⟨3, 2, 4, 0⟩ : S87), (⟨3, 6, 8, 0⟩ : S87)] : List (S87))) (inner := [.int .i64 1, .int .i64 1, .int .i64 0, .int .i64 0, .int .i64 2, .int .i64 1, .int .i64 2, .int .i64 0, .int .i64 3, .int .i64 2, .int .i64 4, .int .i64 0, .int .i64 3, .int .i64 6, .int .i64 8, .int .i64 0]) (ok := fun _ => True) (okp := fun _ => True) ?hr ?hp (fun _ hk => hk) trivial (Below.refl _ _) (Nat.le_refl _) (by simp) ?_; (case hd => rfl); (case hg => rfl); (case hr => first | (go_simp; done) | (go_simp; rfl)); (case hp => exact (Reps.c4 (show Kd.M k87 _ _ _ (⟨1, 1, 0, 0⟩ : S87) [.int .i64 1, .int .i64 1, .int .i64 0, .int .i64 0] from (k87_mkM _ _ _ (⟨1, 1, 0, 0⟩ : S87) )) (Reps.c4 (show Kd.M k87 _ _ _ (⟨2, 1, 2, 0⟩ : S87) [.int .i64 2, .int .i64 1, .int .i64 2, .int .i64 0] from (k87_mkM _ _ _ (⟨2, 1, 2, 0⟩ : S87) )) (Reps.c4 (show Kd.M k87 _ _ _ (⟨3, 2, 4, 0⟩ : S87) [.int .i64 3, .int .i64 2, .int .i64 4, .int .i64 0] from (k87_mkM _ _ _ (⟨3, 2, 4, 0⟩ : S87) )) (Reps.c4 (show Kd.M k87 _ _ _ (⟨3, 6, 8, 0⟩ : S87) [.int .i64 3, .int .i64 6, .int .i64 8, .int .i64 0] from (k87_mkM _ _ _ (⟨3, 6, 8, 0⟩ : S87) )) (Reps.none _ _)))))); intro v422 w5 ho6 hb hg_ hnew_; clear hg_ hnew_; (first | rw [← Ny421.out] at ho6 | (simp only [Int.reduceToNat] at ho6; rw [← Ny421.out] at ho6)); have n_ := aC (Kd.R_lower ho6 bz) (aE (bs hb)); clear HB; obtain ⟨HO423, HB⟩ := n_; clear hb ho6))
  go_ret
  exact ⟨_, re, rU HO423.out, bl⟩
def incunableref04_used.f (a0_0 : Int) (a0_1 : Int) (a0_2 : Int) (a0_3 : Int) : Option (Bool) := some (decide (a0_0 > 0))
set_option maxHeartbeats 8000000 in
set_option maxRecDepth 100000 in
theorem incunableref04_used.calls (a0_0 : Int) (a0_1 : Int) (a0_2 : Int) (a0_3 : Int) (r : Bool) (w : World) (h : incunableref04_used.f a0_0 a0_1 a0_2 a0_3 = some r) :
  Calls Tryd.prog 61 #[.agg #[.int .i64 a0_0, .int .i64 a0_1, .int .i64 a0_2, .int .i64 a0_3]] w fun e w' => e = .returned (.bool r) ∧ Below w.heap.size w w' := by
 have hu87 := Tryd.underlying87
 have HB := Aside0.mk (Below.refl w.heap.size w)
 have H : (some (decide (a0_0 > 0))) = some r := h
 clear h
 obtain rfl := Option.some.inj H
 go_enter Tryd.func61, Tryd.ntmps61
 go_wp2_with (first | ((with_reducible refine gd 1 rfl ?_); refine bx 1 #[.int .i64 a0_0, .int .i64 a0_1, .int .i64 a0_2, .int .i64 a0_3] 87 rfl rfl ?_; intro gb424 hg w2 hbox hb; have n_ := aC (bs hb) (aC hbox (aC (gz hg) (aE (gz hg)))); clear HB; obtain ⟨HB, BK424, GW424, GE424⟩ := n_; clear hb hbox hg; obtain ⟨hcz3_0, hcz3_1, hcz3_2, hcz3_3, hfz3_0, hfz3_1, hfz3_2, hfz3_3⟩ := cz4f BK424.out))
 go_ret
 exact ⟨re, bl⟩
def incunableref04_digits.l0 : Nat → Int → List Int → Int → Option (List Int)
 | 0, _, _, _ => none
 | k + 1, x0, x5, x6 => if x6 ≥ 0 then (if 0 ≤ x6 then (if x5.length < 140737488355328 then (incunableref04_digits.l0 k x0 (x5 ++ [(Int.tmod (shr .i64 x0 x6) 2) % 256]) (wrap64 (x6 - 1))) else (none)) else (none)) else (some x5)
def incunableref04_digits.f (k : Nat) (a0 : Int) (a1 : Int) : Option (List Int) := incunableref04_digits.l0 k a0 ([] : List Int) (wrap64 (a1 - 1))
theorem incunableref04_digits.mono_l : ∀ k, (∀ y0 y1 y2, LeO (incunableref04_digits.l0 k y0 y1 y2) (incunableref04_digits.l0 (k + 1) y0 y1 y2))
 | 0 => fun _ _ _ r h => by simp [incunableref04_digits.l0] at h
 | k + 1 => by
  have ih0 := incunableref04_digits.mono_l k
  ·intro y0 y1 y2
   unfold incunableref04_digits.l0
   repeat' first
   | (with_reducible exact ih0 _ _ _)
   | (with_reducible first | exact LeO.refl _ | exact LeO.none _ | refine LeO.ite ?_ ?_ | refine LeO.bind ?_ (fun _ => ?_))
   | exact ih0 _ _ _
   | exact LeO.none _ | refine LeO.ite ?_ ?_ | refine LeO.bind ?_ (fun _ => ?_)
theorem incunableref04_digits.mono : ∀ a0 a1 k, LeO (incunableref04_digits.f k a0 a1) (incunableref04_digits.f (k + 1) a0 a1) := by
 intro a0 a1 k
 have ih0 := incunableref04_digits.mono_l k
 unfold incunableref04_digits.f
 repeat' first
   | (with_reducible exact ih0 _ _ _)
   | (with_reducible first | exact LeO.refl _ | exact LeO.none _ | refine LeO.ite ?_ ?_ | refine LeO.bind ?_ (fun _ => ?_))
   | exact ih0 _ _ _
   | exact LeO.none _ | refine LeO.ite ?_ ?_ | refine LeO.bind ?_ (fun _ => ?_)
set_option maxHeartbeats 8000000 in
set_option maxRecDepth 100000 in
theorem incunableref04_digits.calls (k : Nat) (a0 : Int) (a1 : Int) (r : List Int) (w : World) (h : incunableref04_digits.f k a0 a1 = some r) :
  Calls Tryd.prog 63 #[.int .i64 a0, .int .i64 a1] w fun e w' => ∃ v0_ : Value, e = .returned (v0_) ∧ Kd.R (Kd.int .u8) 5 w' w.heap.size (fun _ => True) v0_ r ∧ Below w.heap.size w w' := by
 have HB := Aside0.mk (Below.refl w.heap.size w)
 have H : (incunableref04_digits.l0 k a0 ([] : List Int) (wrap64 (a1 - 1))) = some r := h
 clear h
 have H' := Aside0.mk H
 clear H
 go_enter Tryd.func63, Tryd.ntmps63
 go_wp2
 go_loopg [5, 6] k (fun kq v5 v6 w' => ∃ (x5_1 : List Int) (x6_1 : Int), v6 = .int .i64 x6_1 ∧ Aside0 (incunableref04_digits.l0 kq a0 x5_1 x6_1 = some r) ∧ Aside0 (kq ≤ k) ∧ Aside0 (Kd.R (Kd.int .u8) 5 w' w.heap.size (fun _ => True) v5 x5_1) ∧ Aside0 (Below w.heap.size w w'))
 case atStart => exact ⟨(([] : List Int)), (wrap64 (a1 - 1)), rq, H', ⟨Nat.le_refl _⟩, ⟨by first | exact Kd.R_nil _ _ _ _ _ | exact Kd.N_nil _ _ _ _ _ | exact Kd.V_nil _ _ _ _ _ | exact Kd.Q_nil _ _ _ _ _ | exact Kd.S_nil _ _ _ _ _⟩, ⟨bl⟩⟩
 case round =>
  clear H'
  obtain ⟨x5_1, x6_1, rfl, HA, HK1, HO_5, HB⟩ := hrel
  cases gk with
  | zero => exact absurd HA.out (by simp [incunableref04_digits.l0])
  | succ k1 =>
   have H := HA.out
   clear HA
   simp only [incunableref04_digits.l0] at H
   by_cases c3 : x6_1 ≥ 0
   ·rw [if_pos c3] at H
    have c3b0 := decide_eq_true c3
    clear c3
    by_cases c4 : 0 ≤ x6_1
    ·rw [if_pos c4] at H
     have c4b0 := eq_true c4
     have c4b1 := decide_eq_true c4
     clear c4
     obtain ⟨ji5, hji5⟩ : ∃ j_ : Int, (shr .i64 a0 x6_1) = j_ := ⟨_, rfl⟩
     replace H : (if x5_1.length < 140737488355328 then (incunableref04_digits.l0 k1 a0 (x5_1 ++ [(Int.tmod (ji5) 2) % 256]) (wrap64 (x6_1 - 1))) else (none)) = some r := by first | (rw [hji5] at H; exact H) | (simp only [hji5] at H ⊢; exact H)
     have hji5_ : (a0 / 2 ^ min x6_1.toNat 64) = ji5 := hji5
     have hji5z : x6_1 ≤ 64 → (a0 / 2 ^ x6_1.toNat) = ji5 := shr_small hji5
     by_cases c6 : x5_1.length < 140737488355328
     ·rw [if_pos c6] at H
      have LMc6 := Aside0.mk c6
      clear c6
      obtain ⟨y425, hy_⟩ : ∃ y_ : List Int, y_ = (x5_1 ++ [(Int.tmod (ji5) 2) % 256]) := ⟨_, rfl⟩
      replace H : (incunableref04_digits.l0 k1 a0 y425 (wrap64 (x6_1 - 1))) = some r := rh
      have Ny425 := aE hy_
      clear hy_
      have H' := Aside0.mk H
      clear H
      go_wp2_with (first | ((with_reducible refine gate_builtin (b := .append) (xs := #[.tmp 13, .tmp 19]) rfl ?_); at_builtin; refine Kd.R_append (Kd.int .u8) (w0 := w) w.heap.size rfl (.tmp 13) (.tmp 19) 22 5 (.int .u8 0) 1 rfl Tryd.underlying22 info5 rfl (by decide) (by omega) u5 x5_1 ((Int.tmod (ji5) 2) % 256) [.int .u8 ((Int.tmod (ji5) 2) % 256)] (fun _ => True) (fun _ => False) rfl rfl ?aP (fun _ hk => hk.elim) ?aF ?aO ?aB ?aS ?aL ?_; (case aP => exact rfl); (case aB => exact bl); (case aF => exact (fun _ _ => trivial)); (case aO => exact (rU HO_5.out)); (case aS => exact bz); (case aL => have := LMc6.out; omega); intro v426 w7 ho hb hg hat; rw [← Ny425.out] at ho; have n_ := aC hb (aE ho); clear HB HO_5; obtain ⟨HB, HO427⟩ := n_; clear ho hb hg hat))
      go_roundg k1
      case measure => have := HK1.out; omega
      case rel => exact ⟨(y425), (wrap64 (x6_1 - 1)), rq, H', ⟨by have := HK1.out; omega⟩, ⟨rU HO427.out⟩, ⟨bl⟩⟩
     ·rw [if_neg c6] at H
      exact absurd H (by simp)
    ·rw [if_neg c4] at H
     exact absurd H (by simp)
   ·rw [if_neg c3] at H
    have c3b0 := decide_eq_false c3
    clear c3
    obtain rfl := Option.some.inj H
    go_wp2
    go_ret
    exact ⟨_, re, rU HO_5.out, bl⟩
end Go.Proofs.YtknclbodinfbeaaDoor.PRunsGetTwo
