-- printed (wip/tools/myprint.py)
import Derived.Test.YtacdchogjpeffaaDoorPNoteAreasx0
import Derived.Test.YtacdchogjpeffaaDoorPNoteAreasx10
namespace Go.Proofs.YtacdchogjpeffaaDoor.PNoteAreas
open Go.RowKit Go.Proofs.YtacdchogjpeffaaDoorW.PrintWords Go.Proofs.YtacdchogjpeffaaDoorW.PrintLast Go.Proofs.YtacdchogjpeffaaDoorW.PrintMore
attribute [local go_sem] max2_int min2_int max_two min_two max_three min_three max_four min_four
set_option linter.unusedVariables false
set_option linter.unusedSimpArgs false
mutual
def incunableref25_isNote.j0 : Nat → Bool → Int → ByteArray → Int → List (S33) → Option (Bool)
 | 0, _, _, _, _, _ => none
 | k + 1, x47, x207000, x207001, x207002, x207003 => if x47 = true then (some false) else (incunableref25_isNote.l0 k 4 x207000 x207001 x207002 x207003)
def incunableref25_isNote.l0 : Nat → Int → Int → ByteArray → Int → List (S33) → Option (Bool)
 | 0, _, _, _, _, _ => none
 | k + 1, x3, x207000, x207001, x207002, x207003 => if x3 < (x207003.length : Int) then (if 0 ≤ x3 then (if ((rd_T33 x207003 x3).f0) = 0 then (if (((rd_T33 x207003 x3).f3).length : Int) = 0 then (some false) else (if 0 < (((rd_T33 x207003 x3).f3).length : Int) then (if ((rd_T33 ((rd_T33 x207003 x3).f3) 0).f0) = 1 then (incunableref25_isNote.l0 k (wrap64 (x3 + 1)) x207000 x207001 x207002 x207003) else (some false)) else (none))) else (some false)) else (none)) else (if 3 < (x207003.length : Int) then ((incunableref25_shape.f k ((rd_T33 x207003 3).f0) ((rd_T33 x207003 3).f1) ((rd_T33 x207003 3).f2) ((rd_T33 x207003 3).f3)).bind fun bt216 => (some bt216.2.2.2.2.2)) else (none))
end
def incunableref25_isNote.f (k : Nat) (a0_0 : Int) (a0_1 : ByteArray) (a0_2 : Int) (l0_3 : List (S33)) : Option (Bool) := if a0_0 = 0 then (if (l0_3.length : Int) < 4 then (incunableref25_isNote.j0 k true a0_0 a0_1 a0_2 l0_3) else (if 0 < (l0_3.length : Int) then (if ((rd_T33 l0_3 0).f0) = 1 then (if ((rd_T33 l0_3 0).f1).toList = ([97, 114, 101, 97] : List UInt8) then (if 1 < (l0_3.length : Int) then (if ((rd_T33 l0_3 1).f0) = 3 then (if 2 < (l0_3.length : Int) then (incunableref25_isNote.j0 k (((rd_T33 l0_3 2).f0) != 3) a0_0 a0_1 a0_2 l0_3) else (none)) else (incunableref25_isNote.j0 k true a0_0 a0_1 a0_2 l0_3)) else (none)) else (incunableref25_isNote.j0 k true a0_0 a0_1 a0_2 l0_3)) else (incunableref25_isNote.j0 k true a0_0 a0_1 a0_2 l0_3)) else (none))) else (incunableref25_isNote.j0 k true a0_0 a0_1 a0_2 l0_3)
theorem incunableref25_isNote.mono_l : ∀ k, (∀ y0 y1 y2 y3 y4, LeO (incunableref25_isNote.j0 k y0 y1 y2 y3 y4) (incunableref25_isNote.j0 (k + 1) y0 y1 y2 y3 y4)) ∧ (∀ y0 y1 y2 y3 y4, LeO (incunableref25_isNote.l0 k y0 y1 y2 y3 y4) (incunableref25_isNote.l0 (k + 1) y0 y1 y2 y3 y4))
 | 0 => ⟨fun _ _ _ _ _ r h => by simp [incunableref25_isNote.j0] at h, fun _ _ _ _ _ r h => by simp [incunableref25_isNote.l0] at h⟩
 | k + 1 => by
  obtain ⟨ih0, ih1⟩ := incunableref25_isNote.mono_l k
  refine ⟨?_, ?_⟩
  ·intro y0 y1 y2 y3 y4
   unfold incunableref25_isNote.j0
   repeat' first
   | (with_reducible exact ih0 _ _ _ _ _)
   | (with_reducible exact ih1 _ _ _ _ _)
   | (with_reducible exact incunableref25_shape.mono _ _ _ _ _)
   | (with_reducible first | exact LeO.refl _ | exact LeO.none _ | refine LeO.ite ?_ ?_ | refine LeO.bind ?_ (fun _ => ?_))
  ·intro y0 y1 y2 y3 y4
   unfold incunableref25_isNote.l0
   repeat' first
   | (with_reducible exact ih0 _ _ _ _ _)
   | (with_reducible exact ih1 _ _ _ _ _)
   | (with_reducible exact incunableref25_shape.mono _ _ _ _ _)
   | (with_reducible first | exact LeO.refl _ | exact LeO.none _ | refine LeO.ite ?_ ?_ | refine LeO.bind ?_ (fun _ => ?_))
theorem incunableref25_isNote.mono : ∀ a0 a1 a2 a3 k, LeO (incunableref25_isNote.f k a0 a1 a2 a3) (incunableref25_isNote.f (k + 1) a0 a1 a2 a3) := by
 intro a0 a1 a2 a3 k
 obtain ⟨ih0, ih1⟩ := incunableref25_isNote.mono_l k
 unfold incunableref25_isNote.f
 repeat' first
   | (with_reducible exact ih0 _ _ _ _ _)
   | (with_reducible exact ih1 _ _ _ _ _)
   | (with_reducible exact incunableref25_shape.mono _ _ _ _ _)
   | (with_reducible first | exact LeO.refl _ | exact LeO.none _ | refine LeO.ite ?_ ?_ | refine LeO.bind ?_ (fun _ => ?_))
set_option maxHeartbeats 8000000 in
set_option maxRecDepth 100000 in
theorem incunableref25_isNote.calls (k : Nat) (a0_0 : Int) (a0_1 : ByteArray) (a0_2 : Int) (A0_3 : Option Addr) (c0_3 : Nat) (l0_3 : List (S33)) (r : Bool) (w : World) (hr0_3 : Kd.C k33 w A0_3 l0_3.length l0_3) (hc0_3 : l0_3.length ≤ c0_3) (h : incunableref25_isNote.f k a0_0 a0_1 a0_2 l0_3 = some r) :
  Calls Tryd.prog 47 #[.agg #[.int .i64 a0_0, .string a0_1, .int .i64 a0_2, .slice A0_3 l0_3.length c0_3]] w fun e w' => e = .returned (.bool r) ∧ Below w.heap.size w w' := by
 have hu33 := Tryd.underlying33
 have hu39 := Tryd.underlying39
 have HR0_3 := Aside0.mk hr0_3
 have HC0_3 := Aside0.mk hc0_3
 clear hr0_3 hc0_3
 have HB := Aside0.mk (Below.refl w.heap.size w)
 have H := h
 unfold incunableref25_isNote.f at H
 clear h
 have HC2 := Aside0.mk H
 clear H
 go_enter Tryd.func47, Tryd.ntmps47
 go_upto_region 1 with (first | ((with_reducible refine gd 1 rfl ?_); (try (refine gate_guard (by rfl) ?_; dsimp only)); refine bx 1 #[.int .i64 a0_0, .string a0_1, .int .i64 a0_2, .slice A0_3 l0_3.length c0_3] 33 rfl rfl ?_; intro gb206 hg w3 hbox hb; have n_ := aC (bs hb) (aC hbox (aC (gz hg) (aE (gz hg)))); clear HB; obtain ⟨HB, BK206, GW206, GE206⟩ := n_; clear hb hbox hg))
 (try simp only [Act.put, List.setIfInBounds_toArray, List.set_cons_zero, List.set_cons_succ])
 go_cut [47] (fun v47 wc => ∃ (kq : Nat) (x47_1 : Bool), v47 = .bool x47_1 ∧ Aside0 (incunableref25_isNote.j0 kq x47_1 a0_0 a0_1 a0_2 l0_3 = some r) ∧ Aside0 (kq ≤ k) ∧ Aside0 (wc.heap[gb206]? = some (.cells #[.int .i64 a0_0, .string a0_1, .int .i64 a0_2, (.slice A0_3 l0_3.length c0_3)] 33 (0, 0))) ∧ Aside0 (Below w.heap.size w wc))
 case first =>
  have H := HC2.out
  clear HC2
  rcases iE H with H1 | H1 <;> clear H <;> obtain ⟨H, c4b0, c4b1, c4⟩ := H1
  ·(first | rw [c4b0] | (simp only [i64_w, i32_w]; rw [c4b0]) | skip)
   by_cases c5 : (l0_3.length : Int) < 4
   ·rw [if_pos c5] at H
    have c5b0 := decide_eq_true c5
    have c5b1 : decide (l0_3.length < 4) = true := decide_eq_true (by omega)
    clear c5
    have H' := Aside0.mk H
    clear H
    obtain ⟨hcz6_0, hcz6_1, hcz6_2, hcz6_3, hfz6_0, hfz6_1, hfz6_2, hfz6_3⟩ := cz4f BK206.out
    go_wp2
    go_meet
    case rel => exact ⟨_, (true), rq, H', ⟨by first | omega | exact Nat.le_refl _⟩, ⟨bU BK206.out⟩, ⟨bl⟩⟩
   ·rw [if_neg c5] at H
    have c5b0 := decide_eq_false c5
    have c5b1 : decide (l0_3.length < 4) = false := decide_eq_false (by omega)
    clear c5
    by_cases c7 : 0 < (l0_3.length : Int)
    ·rw [if_pos c7] at H
     have c7b0 := decide_eq_true c7
     have c7b1 : decide (0 < l0_3.length) = true := decide_eq_true (by omega)
     clear c7
     rcases iE H with H1 | H1 <;> clear H <;> obtain ⟨H, c8b0, c8b1, c8⟩ := H1
     ·rcases iE H with H1 | H1 <;> clear H <;> obtain ⟨H, c9b0, c9b1, c9⟩ := H1
      ·by_cases c10 : 1 < (l0_3.length : Int)
       ·rw [if_pos c10] at H
        have c10b0 := decide_eq_true c10
        have c10b1 : decide (1 < l0_3.length) = true := decide_eq_true (by omega)
        clear c10
        rcases iE H with H1 | H1 <;> clear H <;> obtain ⟨H, c11b0, c11b1, c11⟩ := H1
        ·by_cases c12 : 2 < (l0_3.length : Int)
         ·rw [if_pos c12] at H
          have c12b0 := decide_eq_true c12
          have c12b1 : decide (2 < l0_3.length) = true := decide_eq_true (by omega)
          clear c12
          have H' := Aside0.mk H
          clear H
          obtain ⟨hcz13_0, hcz13_1, hcz13_2, hcz13_3, hfz13_0, hfz13_1, hfz13_2, hfz13_3⟩ := cz4f BK206.out
          have p207 : 0 ≤ (0 : Int) := (by omega)
          have q207 : 0 < (l0_3.length : Int) := dt
          obtain ⟨ad207, A207_3, c207_3, e207, hx207_0, hx207_1, hx207_2, hx207_3, hl207_3, hi207_3⟩ := at_T33 HR0_3.out 0 p207 q207
          cases e207
          have qi207 : (0 < l0_3.length) = True := eq_true (by omega)
          (try rw [show ((0 : Int)).toNat = 0 from rfl] at hx207_0)
          (try rw [show 0 * 4 = 0 from rfl] at hx207_0)
          (try rw [Addr.add_zero'] at hx207_0)
          (try rw [show ((0 : Int)).toNat = 0 from rfl] at hx207_1)
          (try rw [show 0 * 4 = 0 from rfl] at hx207_1)
          (try rw [Addr.add_zero'] at hx207_1)
          (try rw [show ((0 : Int)).toNat = 0 from rfl] at hx207_2)
          (try rw [show 0 * 4 = 0 from rfl] at hx207_2)
          (try rw [Addr.add_zero'] at hx207_2)
          (try rw [show ((0 : Int)).toNat = 0 from rfl] at hx207_3)
          (try rw [show 0 * 4 = 0 from rfl] at hx207_3)
          (try rw [Addr.add_zero'] at hx207_3)
          replace hx207_0 := hcB HB.out hx207_0
          replace hx207_1 := hcB HB.out hx207_1
          replace hx207_2 := hcB HB.out hx207_2
          replace hx207_3 := hcB HB.out hx207_3
          have HR207_3 := Aside0.mk hi207_3
          have HC207_3 := Aside0.mk hl207_3
          clear hi207_3 hl207_3
          replace p207 := eq_true p207
          replace q207 := eq_true q207
          have p208 : 0 ≤ (0 : Int) := (by omega)
          have q208 : 0 < (l0_3.length : Int) := dt
          obtain ⟨ad208, A208_3, c208_3, e208, hx208_0, hx208_1, hx208_2, hx208_3, hl208_3, hi208_3⟩ := at_T33 HR0_3.out 0 p208 q208
          obtain rfl : ad207 = ad208 := (by injection e208)
          have qi208 : (0 < l0_3.length) = True := eq_true (by omega)
          (try rw [show ((0 : Int)).toNat = 0 from rfl] at hx208_0)
          (try rw [show 0 * 4 = 0 from rfl] at hx208_0)
          (try rw [Addr.add_zero'] at hx208_0)
          (try rw [show ((0 : Int)).toNat = 0 from rfl] at hx208_1)
          (try rw [show 0 * 4 = 0 from rfl] at hx208_1)
          (try rw [Addr.add_zero'] at hx208_1)
          (try rw [show ((0 : Int)).toNat = 0 from rfl] at hx208_2)
          (try rw [show 0 * 4 = 0 from rfl] at hx208_2)
          (try rw [Addr.add_zero'] at hx208_2)
          (try rw [show ((0 : Int)).toNat = 0 from rfl] at hx208_3)
          (try rw [show 0 * 4 = 0 from rfl] at hx208_3)
          (try rw [Addr.add_zero'] at hx208_3)
          replace hx208_0 := hcB HB.out hx208_0
          replace hx208_1 := hcB HB.out hx208_1
          replace hx208_2 := hcB HB.out hx208_2
          replace hx208_3 := hcB HB.out hx208_3
          have HR208_3 := Aside0.mk hi208_3
          have HC208_3 := Aside0.mk hl208_3
          clear hi208_3 hl208_3
          replace p208 := eq_true p208
          replace q208 := eq_true q208
          have ea_ := Option.some.inj (hx207_3.symm.trans hx208_3)
          injection ea_ with ea_ en_ ec_
          subst ea_
          subst ec_
          clear en_
          have p209 : 0 ≤ (1 : Int) := (by omega)
          have q209 : 1 < (l0_3.length : Int) := dt
          obtain ⟨ad209, A209_3, c209_3, e209, hx209_0, hx209_1, hx209_2, hx209_3, hl209_3, hi209_3⟩ := at_T33 HR0_3.out 1 p209 q209
          obtain rfl : ad207 = ad209 := (by injection e209)
          (try simp only [show (1 : Int).toNat = 1 from rfl, Nat.reduceMul, Nat.reduceEqDiff, Go.Addr.add, ↓reduceIte] at hx209_0)
          (try simp only [show (1 : Int).toNat = 1 from rfl, Nat.reduceMul, Nat.reduceEqDiff, Go.Addr.add, ↓reduceIte] at hx209_1)
          (try simp only [show (1 : Int).toNat = 1 from rfl, Nat.reduceMul, Nat.reduceEqDiff, Go.Addr.add, ↓reduceIte] at hx209_2)
          (try simp only [show (1 : Int).toNat = 1 from rfl, Nat.reduceMul, Nat.reduceEqDiff, Go.Addr.add, ↓reduceIte] at hx209_3)
          have qi209 : (1 < l0_3.length) = True := eq_true (by omega)
          (try rw [show ((1 : Int)).toNat = 1 from rfl] at hx209_0)
          (try rw [show 1 * 4 = 4 from rfl] at hx209_0)
          (try rw [show ((1 : Int)).toNat = 1 from rfl] at hx209_1)
          (try rw [show 1 * 4 = 4 from rfl] at hx209_1)
          (try rw [show ((1 : Int)).toNat = 1 from rfl] at hx209_2)
          (try rw [show 1 * 4 = 4 from rfl] at hx209_2)
          (try rw [show ((1 : Int)).toNat = 1 from rfl] at hx209_3)
          (try rw [show 1 * 4 = 4 from rfl] at hx209_3)
          replace hx209_0 := hcB HB.out hx209_0
          replace hx209_1 := hcB HB.out hx209_1
          replace hx209_2 := hcB HB.out hx209_2
          replace hx209_3 := hcB HB.out hx209_3
          have HR209_3 := Aside0.mk hi209_3
          have HC209_3 := Aside0.mk hl209_3
          clear hi209_3 hl209_3
          replace p209 := eq_true p209
          replace q209 := eq_true q209
          have p210 : 0 ≤ (2 : Int) := (by omega)
          have q210 : 2 < (l0_3.length : Int) := dt
          obtain ⟨ad210, A210_3, c210_3, e210, hx210_0, hx210_1, hx210_2, hx210_3, hl210_3, hi210_3⟩ := at_T33 HR0_3.out 2 p210 q210
          obtain rfl : ad207 = ad210 := (by injection e210)
          (try simp only [show (2 : Int).toNat = 2 from rfl, Nat.reduceMul, Nat.reduceEqDiff, Go.Addr.add, ↓reduceIte] at hx210_0)
          (try simp only [show (2 : Int).toNat = 2 from rfl, Nat.reduceMul, Nat.reduceEqDiff, Go.Addr.add, ↓reduceIte] at hx210_1)
          (try simp only [show (2 : Int).toNat = 2 from rfl, Nat.reduceMul, Nat.reduceEqDiff, Go.Addr.add, ↓reduceIte] at hx210_2)
          (try simp only [show (2 : Int).toNat = 2 from rfl, Nat.reduceMul, Nat.reduceEqDiff, Go.Addr.add, ↓reduceIte] at hx210_3)
          have qi210 : (2 < l0_3.length) = True := eq_true (by omega)
          (try rw [show ((2 : Int)).toNat = 2 from rfl] at hx210_0)
          (try rw [show 2 * 4 = 8 from rfl] at hx210_0)
          (try rw [show ((2 : Int)).toNat = 2 from rfl] at hx210_1)
          (try rw [show 2 * 4 = 8 from rfl] at hx210_1)
          (try rw [show ((2 : Int)).toNat = 2 from rfl] at hx210_2)
          (try rw [show 2 * 4 = 8 from rfl] at hx210_2)
          (try rw [show ((2 : Int)).toNat = 2 from rfl] at hx210_3)
          (try rw [show 2 * 4 = 8 from rfl] at hx210_3)
          replace hx210_0 := hcB HB.out hx210_0
          replace hx210_1 := hcB HB.out hx210_1
          replace hx210_2 := hcB HB.out hx210_2
          replace hx210_3 := hcB HB.out hx210_3
          have HR210_3 := Aside0.mk hi210_3
          have HC210_3 := Aside0.mk hl210_3
          clear hi210_3 hl210_3
          replace p210 := eq_true p210
          replace q210 := eq_true q210
          go_wp2
          go_meet
          case rel => exact ⟨_, ((((rd_T33 l0_3 2).f0) != 3)), rq, H', ⟨by first | omega | exact Nat.le_refl _⟩, ⟨bU BK206.out⟩, ⟨bl⟩⟩
         ·rw [if_neg c12] at H
          exact absurd H (by simp)
        ·have H' := Aside0.mk H
         clear H
         obtain ⟨hcz14_0, hcz14_1, hcz14_2, hcz14_3, hfz14_0, hfz14_1, hfz14_2, hfz14_3⟩ := cz4f BK206.out
         have p207 : 0 ≤ (0 : Int) := (by omega)
         have q207 : 0 < (l0_3.length : Int) := dt
         obtain ⟨ad207, A207_3, c207_3, e207, hx207_0, hx207_1, hx207_2, hx207_3, hl207_3, hi207_3⟩ := at_T33 HR0_3.out 0 p207 q207
         cases e207
         have qi207 : (0 < l0_3.length) = True := eq_true (by omega)
         (try rw [show ((0 : Int)).toNat = 0 from rfl] at hx207_0)
         (try rw [show 0 * 4 = 0 from rfl] at hx207_0)
         (try rw [Addr.add_zero'] at hx207_0)
         (try rw [show ((0 : Int)).toNat = 0 from rfl] at hx207_1)
         (try rw [show 0 * 4 = 0 from rfl] at hx207_1)
         (try rw [Addr.add_zero'] at hx207_1)
         (try rw [show ((0 : Int)).toNat = 0 from rfl] at hx207_2)
         (try rw [show 0 * 4 = 0 from rfl] at hx207_2)
         (try rw [Addr.add_zero'] at hx207_2)
         (try rw [show ((0 : Int)).toNat = 0 from rfl] at hx207_3)
         (try rw [show 0 * 4 = 0 from rfl] at hx207_3)
         (try rw [Addr.add_zero'] at hx207_3)
         replace hx207_0 := hcB HB.out hx207_0
         replace hx207_1 := hcB HB.out hx207_1
         replace hx207_2 := hcB HB.out hx207_2
         replace hx207_3 := hcB HB.out hx207_3
         have HR207_3 := Aside0.mk hi207_3
         have HC207_3 := Aside0.mk hl207_3
         clear hi207_3 hl207_3
         replace p207 := eq_true p207
         replace q207 := eq_true q207
         have p208 : 0 ≤ (0 : Int) := (by omega)
         have q208 : 0 < (l0_3.length : Int) := dt
         obtain ⟨ad208, A208_3, c208_3, e208, hx208_0, hx208_1, hx208_2, hx208_3, hl208_3, hi208_3⟩ := at_T33 HR0_3.out 0 p208 q208
         obtain rfl : ad207 = ad208 := (by injection e208)
         have qi208 : (0 < l0_3.length) = True := eq_true (by omega)
         (try rw [show ((0 : Int)).toNat = 0 from rfl] at hx208_0)
         (try rw [show 0 * 4 = 0 from rfl] at hx208_0)
         (try rw [Addr.add_zero'] at hx208_0)
         (try rw [show ((0 : Int)).toNat = 0 from rfl] at hx208_1)
         (try rw [show 0 * 4 = 0 from rfl] at hx208_1)
         (try rw [Addr.add_zero'] at hx208_1)
         (try rw [show ((0 : Int)).toNat = 0 from rfl] at hx208_2)
         (try rw [show 0 * 4 = 0 from rfl] at hx208_2)
         (try rw [Addr.add_zero'] at hx208_2)
         (try rw [show ((0 : Int)).toNat = 0 from rfl] at hx208_3)
         (try rw [show 0 * 4 = 0 from rfl] at hx208_3)
         (try rw [Addr.add_zero'] at hx208_3)
         replace hx208_0 := hcB HB.out hx208_0
         replace hx208_1 := hcB HB.out hx208_1
         replace hx208_2 := hcB HB.out hx208_2
         replace hx208_3 := hcB HB.out hx208_3
         have HR208_3 := Aside0.mk hi208_3
         have HC208_3 := Aside0.mk hl208_3
         clear hi208_3 hl208_3
         replace p208 := eq_true p208
         replace q208 := eq_true q208
         have ea_ := Option.some.inj (hx207_3.symm.trans hx208_3)
         injection ea_ with ea_ en_ ec_
         subst ea_
         subst ec_
         clear en_
         have p209 : 0 ≤ (1 : Int) := (by omega)
         have q209 : 1 < (l0_3.length : Int) := dt
         obtain ⟨ad209, A209_3, c209_3, e209, hx209_0, hx209_1, hx209_2, hx209_3, hl209_3, hi209_3⟩ := at_T33 HR0_3.out 1 p209 q209
         obtain rfl : ad207 = ad209 := (by injection e209)
         (try simp only [show (1 : Int).toNat = 1 from rfl, Nat.reduceMul, Nat.reduceEqDiff, Go.Addr.add, ↓reduceIte] at hx209_0)
         (try simp only [show (1 : Int).toNat = 1 from rfl, Nat.reduceMul, Nat.reduceEqDiff, Go.Addr.add, ↓reduceIte] at hx209_1)
         (try simp only [show (1 : Int).toNat = 1 from rfl, Nat.reduceMul, Nat.reduceEqDiff, Go.Addr.add, ↓reduceIte] at hx209_2)
         (try simp only [show (1 : Int).toNat = 1 from rfl, Nat.reduceMul, Nat.reduceEqDiff, Go.Addr.add, ↓reduceIte] at hx209_3)
         have qi209 : (1 < l0_3.length) = True := eq_true (by omega)
         (try rw [show ((1 : Int)).toNat = 1 from rfl] at hx209_0)
         (try rw [show 1 * 4 = 4 from rfl] at hx209_0)
         (try rw [show ((1 : Int)).toNat = 1 from rfl] at hx209_1)
         (try rw [show 1 * 4 = 4 from rfl] at hx209_1)
         (try rw [show ((1 : Int)).toNat = 1 from rfl] at hx209_2)
         (try rw [show 1 * 4 = 4 from rfl] at hx209_2)
         (try rw [show ((1 : Int)).toNat = 1 from rfl] at hx209_3)
         (try rw [show 1 * 4 = 4 from rfl] at hx209_3)
         replace hx209_0 := hcB HB.out hx209_0
         replace hx209_1 := hcB HB.out hx209_1
         replace hx209_2 := hcB HB.out hx209_2
         replace hx209_3 := hcB HB.out hx209_3
         have HR209_3 := Aside0.mk hi209_3
         have HC209_3 := Aside0.mk hl209_3
         clear hi209_3 hl209_3
         replace p209 := eq_true p209
         replace q209 := eq_true q209
         go_wp2
         go_meet
         case rel => exact ⟨_, (true), rq, H', ⟨by first | omega | exact Nat.le_refl _⟩, ⟨bU BK206.out⟩, ⟨bl⟩⟩
       ·rw [if_neg c10] at H
        exact absurd H (by simp)
      ·have H' := Aside0.mk H
       clear H
       obtain ⟨hcz15_0, hcz15_1, hcz15_2, hcz15_3, hfz15_0, hfz15_1, hfz15_2, hfz15_3⟩ := cz4f BK206.out
       have p207 : 0 ≤ (0 : Int) := (by omega)
       have q207 : 0 < (l0_3.length : Int) := dt
       obtain ⟨ad207, A207_3, c207_3, e207, hx207_0, hx207_1, hx207_2, hx207_3, hl207_3, hi207_3⟩ := at_T33 HR0_3.out 0 p207 q207
       cases e207
       have qi207 : (0 < l0_3.length) = True := eq_true (by omega)
       (try rw [show ((0 : Int)).toNat = 0 from rfl] at hx207_0)
       (try rw [show 0 * 4 = 0 from rfl] at hx207_0)
       (try rw [Addr.add_zero'] at hx207_0)
       (try rw [show ((0 : Int)).toNat = 0 from rfl] at hx207_1)
       (try rw [show 0 * 4 = 0 from rfl] at hx207_1)
       (try rw [Addr.add_zero'] at hx207_1)
       (try rw [show ((0 : Int)).toNat = 0 from rfl] at hx207_2)
       (try rw [show 0 * 4 = 0 from rfl] at hx207_2)
       (try rw [Addr.add_zero'] at hx207_2)
       (try rw [show ((0 : Int)).toNat = 0 from rfl] at hx207_3)
       (try rw [show 0 * 4 = 0 from rfl] at hx207_3)
       (try rw [Addr.add_zero'] at hx207_3)
       replace hx207_0 := hcB HB.out hx207_0
       replace hx207_1 := hcB HB.out hx207_1
       replace hx207_2 := hcB HB.out hx207_2
       replace hx207_3 := hcB HB.out hx207_3
       have HR207_3 := Aside0.mk hi207_3
       have HC207_3 := Aside0.mk hl207_3
       clear hi207_3 hl207_3
       replace p207 := eq_true p207
       replace q207 := eq_true q207
       have p208 : 0 ≤ (0 : Int) := (by omega)
       have q208 : 0 < (l0_3.length : Int) := dt
       obtain ⟨ad208, A208_3, c208_3, e208, hx208_0, hx208_1, hx208_2, hx208_3, hl208_3, hi208_3⟩ := at_T33 HR0_3.out 0 p208 q208
       obtain rfl : ad207 = ad208 := (by injection e208)
       have qi208 : (0 < l0_3.length) = True := eq_true (by omega)
       (try rw [show ((0 : Int)).toNat = 0 from rfl] at hx208_0)
       (try rw [show 0 * 4 = 0 from rfl] at hx208_0)
       (try rw [Addr.add_zero'] at hx208_0)
       (try rw [show ((0 : Int)).toNat = 0 from rfl] at hx208_1)
       (try rw [show 0 * 4 = 0 from rfl] at hx208_1)
       (try rw [Addr.add_zero'] at hx208_1)
       (try rw [show ((0 : Int)).toNat = 0 from rfl] at hx208_2)
       (try rw [show 0 * 4 = 0 from rfl] at hx208_2)
       (try rw [Addr.add_zero'] at hx208_2)
       (try rw [show ((0 : Int)).toNat = 0 from rfl] at hx208_3)
       (try rw [show 0 * 4 = 0 from rfl] at hx208_3)
       (try rw [Addr.add_zero'] at hx208_3)
       replace hx208_0 := hcB HB.out hx208_0
       replace hx208_1 := hcB HB.out hx208_1
       replace hx208_2 := hcB HB.out hx208_2
       replace hx208_3 := hcB HB.out hx208_3
       have HR208_3 := Aside0.mk hi208_3
       have HC208_3 := Aside0.mk hl208_3
       clear hi208_3 hl208_3
       replace p208 := eq_true p208
       replace q208 := eq_true q208
       have ea_ := Option.some.inj (hx207_3.symm.trans hx208_3)
       injection ea_ with ea_ en_ ec_
       subst ea_
       subst ec_
       clear en_
       go_wp2
       go_meet
       case rel => exact ⟨_, (true), rq, H', ⟨by first | omega | exact Nat.le_refl _⟩, ⟨bU BK206.out⟩, ⟨bl⟩⟩
     ·have H' := Aside0.mk H
      clear H
      obtain ⟨hcz16_0, hcz16_1, hcz16_2, hcz16_3, hfz16_0, hfz16_1, hfz16_2, hfz16_3⟩ := cz4f BK206.out
      have p207 : 0 ≤ (0 : Int) := (by omega)
      have q207 : 0 < (l0_3.length : Int) := dt
      obtain ⟨ad207, A207_3, c207_3, e207, hx207_0, hx207_1, hx207_2, hx207_3, hl207_3, hi207_3⟩ := at_T33 HR0_3.out 0 p207 q207
      cases e207
      have qi207 : (0 < l0_3.length) = True := eq_true (by omega)
      (try rw [show ((0 : Int)).toNat = 0 from rfl] at hx207_0)
      (try rw [show 0 * 4 = 0 from rfl] at hx207_0)
      (try rw [Addr.add_zero'] at hx207_0)
      (try rw [show ((0 : Int)).toNat = 0 from rfl] at hx207_1)
      (try rw [show 0 * 4 = 0 from rfl] at hx207_1)
      (try rw [Addr.add_zero'] at hx207_1)
      (try rw [show ((0 : Int)).toNat = 0 from rfl] at hx207_2)
      (try rw [show 0 * 4 = 0 from rfl] at hx207_2)
      (try rw [Addr.add_zero'] at hx207_2)
      (try rw [show ((0 : Int)).toNat = 0 from rfl] at hx207_3)
      (try rw [show 0 * 4 = 0 from rfl] at hx207_3)
      (try rw [Addr.add_zero'] at hx207_3)
      replace hx207_0 := hcB HB.out hx207_0
      replace hx207_1 := hcB HB.out hx207_1
      replace hx207_2 := hcB HB.out hx207_2
      replace hx207_3 := hcB HB.out hx207_3
      have HR207_3 := Aside0.mk hi207_3
      have HC207_3 := Aside0.mk hl207_3
      clear hi207_3 hl207_3
      replace p207 := eq_true p207
      replace q207 := eq_true q207
      go_wp2
      go_meet
      case rel => exact ⟨_, (true), rq, H', ⟨by first | omega | exact Nat.le_refl _⟩, ⟨bU BK206.out⟩, ⟨bl⟩⟩
    ·rw [if_neg c7] at H
     exact absurd H (by simp)
  ·(first | rw [c4b0] | (simp only [i64_w, i32_w]; rw [c4b0]) | skip)
   have H' := Aside0.mk H
   clear H
   obtain ⟨hcz17_0, hcz17_1, hcz17_2, hcz17_3, hfz17_0, hfz17_1, hfz17_2, hfz17_3⟩ := cz4f BK206.out
   go_wp2
   go_meet
   case rel => exact ⟨_, (true), rq, H', ⟨by first | omega | exact Nat.le_refl _⟩, ⟨bU BK206.out⟩, ⟨bl⟩⟩
 case rest =>
  clear HC2
  obtain ⟨kq, x47_1, rfl, HA, HJ1, BK206, HB⟩ := hcut
  cases kq with
  | zero => exact absurd HA.out (by simp [incunableref25_isNote.j0])
  | succ kj1 =>
   have H := HA.out
   clear HA
   simp only [incunableref25_isNote.j0] at H
   by_cases c18 : x47_1 = true
   ·subst c18
    rw [if_pos rfl] at H
    obtain rfl := Option.some.inj H
    go_wp2
    go_ret
    exact ⟨re, bl⟩
   ·replace c18 := Bool.eq_false_iff.mpr c18
    subst c18
    rw [if_neg Bool.false_ne_true] at H
    have H' := Aside0.mk H
    clear H
    go_wp2
    go_loopg [3] kj1 (fun kq v3 w' => ∃ (x3_2 : Int), v3 = .int .i64 x3_2 ∧ Aside0 (incunableref25_isNote.l0 kq x3_2 a0_0 a0_1 a0_2 l0_3 = some r) ∧ Aside0 (kq ≤ kj1) ∧ Aside0 (w'.heap[gb206]? = some (.cells #[.int .i64 a0_0, .string a0_1, .int .i64 a0_2, (.slice A0_3 l0_3.length c0_3)] 33 (0, 0))) ∧ Aside0 (Below w.heap.size w w'))
    case atStart => exact ⟨(4), rq, H', ⟨Nat.le_refl _⟩, ⟨bU BK206.out⟩, ⟨bl⟩⟩
    case round =>
     clear H'
     obtain ⟨x3_2, rfl, HA, HK2, BK206, HB⟩ := hrel
     cases gk with
     | zero => exact absurd HA.out (by simp [incunableref25_isNote.l0])
     | succ k2 =>
      have H := HA.out
      clear HA
      simp only [incunableref25_isNote.l0] at H
      rcases iL H with H1 | H1 <;> clear H <;> obtain ⟨H, c19b0⟩ := H1
      ·by_cases c20 : 0 ≤ x3_2
       ·rw [if_pos c20] at H
        have c20b0 := decide_eq_true c20
        clear c20
        rcases iE H with H1 | H1 <;> clear H <;> obtain ⟨H, c21b0, c21b1, c21⟩ := H1
        ·rcases iE H with H1 | H1 <;> clear H <;> obtain ⟨H, c22b0, c22b1, c22⟩ := H1
         ·obtain rfl := Option.some.inj H
          obtain ⟨hcz23_0, hcz23_1, hcz23_2, hcz23_3, hfz23_0, hfz23_1, hfz23_2, hfz23_3⟩ := cz4f BK206.out
          have p211 : 0 ≤ (x3_2 : Int) := dt
          have q211 : x3_2 < (l0_3.length : Int) := dt
          obtain ⟨ad211, A211_3, c211_3, e211, hx211_0, hx211_1, hx211_2, hx211_3, hl211_3, hi211_3⟩ := at_T33 HR0_3.out x3_2 p211 q211
          cases e211
          replace hx211_0 := hcB HB.out hx211_0
          replace hx211_1 := hcB HB.out hx211_1
          replace hx211_2 := hcB HB.out hx211_2
          replace hx211_3 := hcB HB.out hx211_3
          have HR211_3 := Aside0.mk hi211_3
          have HC211_3 := Aside0.mk hl211_3
          clear hi211_3 hl211_3
          replace p211 := eq_true p211
          replace q211 := eq_true q211
          have p212 : 0 ≤ (x3_2 : Int) := dt
          have q212 : x3_2 < (l0_3.length : Int) := dt
          obtain ⟨ad212, A212_3, c212_3, e212, hx212_0, hx212_1, hx212_2, hx212_3, hl212_3, hi212_3⟩ := at_T33 HR0_3.out x3_2 p212 q212
          obtain rfl : ad211 = ad212 := (by injection e212)
          replace hx212_0 := hcB HB.out hx212_0
          replace hx212_1 := hcB HB.out hx212_1
          replace hx212_2 := hcB HB.out hx212_2
          replace hx212_3 := hcB HB.out hx212_3
          have HR212_3 := Aside0.mk hi212_3
          have HC212_3 := Aside0.mk hl212_3
          clear hi212_3 hl212_3
          replace p212 := eq_true p212
          replace q212 := eq_true q212
          have ea_ := Option.some.inj (hx211_3.symm.trans hx212_3)
          injection ea_ with ea_ en_ ec_
          subst ea_
          subst ec_
          clear en_
          go_wp2
          go_ret
          exact ⟨re, bl⟩
         ·have c22b2 : ¬ (((rd_T33 l0_3 x3_2).f3) = []) := fun h_ => c22 (by rw [h_]; rfl)
          by_cases c24 : 0 < (((rd_T33 l0_3 x3_2).f3).length : Int)
          ·rw [if_pos c24] at H
           have c24b0 := decide_eq_true c24
           have c24b1 : decide (0 < ((rd_T33 l0_3 x3_2).f3).length) = true := decide_eq_true (by omega)
           clear c24
           rcases iE H with H1 | H1 <;> clear H <;> obtain ⟨H, c25b0, c25b1, c25⟩ := H1
           ·have H' := Aside0.mk H
            clear H
            obtain ⟨hcz26_0, hcz26_1, hcz26_2, hcz26_3, hfz26_0, hfz26_1, hfz26_2, hfz26_3⟩ := cz4f BK206.out
            have p211 : 0 ≤ (x3_2 : Int) := dt
            have q211 : x3_2 < (l0_3.length : Int) := dt
            obtain ⟨ad211, A211_3, c211_3, e211, hx211_0, hx211_1, hx211_2, hx211_3, hl211_3, hi211_3⟩ := at_T33 HR0_3.out x3_2 p211 q211
            cases e211
            replace hx211_0 := hcB HB.out hx211_0
            replace hx211_1 := hcB HB.out hx211_1
            replace hx211_2 := hcB HB.out hx211_2
            replace hx211_3 := hcB HB.out hx211_3
            have HR211_3 := Aside0.mk hi211_3
            have HC211_3 := Aside0.mk hl211_3
            clear hi211_3 hl211_3
            replace p211 := eq_true p211
            replace q211 := eq_true q211
            have p212 : 0 ≤ (x3_2 : Int) := dt
            have q212 : x3_2 < (l0_3.length : Int) := dt
            obtain ⟨ad212, A212_3, c212_3, e212, hx212_0, hx212_1, hx212_2, hx212_3, hl212_3, hi212_3⟩ := at_T33 HR0_3.out x3_2 p212 q212
            obtain rfl : ad211 = ad212 := (by injection e212)
            replace hx212_0 := hcB HB.out hx212_0
            replace hx212_1 := hcB HB.out hx212_1
            replace hx212_2 := hcB HB.out hx212_2
            replace hx212_3 := hcB HB.out hx212_3
            have HR212_3 := Aside0.mk hi212_3
            have HC212_3 := Aside0.mk hl212_3
            clear hi212_3 hl212_3
            replace p212 := eq_true p212
            replace q212 := eq_true q212
            have ea_ := Option.some.inj (hx211_3.symm.trans hx212_3)
            injection ea_ with ea_ en_ ec_
            subst ea_
            subst ec_
            clear en_
            have p213 : 0 ≤ (x3_2 : Int) := dt
            have q213 : x3_2 < (l0_3.length : Int) := dt
            obtain ⟨ad213, A213_3, c213_3, e213, hx213_0, hx213_1, hx213_2, hx213_3, hl213_3, hi213_3⟩ := at_T33 HR0_3.out x3_2 p213 q213
            obtain rfl : ad211 = ad213 := (by injection e213)
            replace hx213_0 := hcB HB.out hx213_0
            replace hx213_1 := hcB HB.out hx213_1
            replace hx213_2 := hcB HB.out hx213_2
            replace hx213_3 := hcB HB.out hx213_3
            have HR213_3 := Aside0.mk hi213_3
            have HC213_3 := Aside0.mk hl213_3
            clear hi213_3 hl213_3
            replace p213 := eq_true p213
            replace q213 := eq_true q213
            have ea_ := Option.some.inj (hx211_3.symm.trans hx213_3)
            injection ea_ with ea_ en_ ec_
            subst ea_
            subst ec_
            clear en_
            have p214 : 0 ≤ (0 : Int) := (by omega)
            have q214 : 0 < (((rd_T33 l0_3 x3_2).f3).length : Int) := dt
            obtain ⟨ad214, A214_3, c214_3, e214, hx214_0, hx214_1, hx214_2, hx214_3, hl214_3, hi214_3⟩ := at_T33 HR213_3.out 0 p214 q214
            cases e214
            have qi214 : (0 < ((rd_T33 l0_3 x3_2).f3).length) = True := eq_true (by omega)
            (try rw [show ((0 : Int)).toNat = 0 from rfl] at hx214_0)
            (try rw [show 0 * 4 = 0 from rfl] at hx214_0)
            (try rw [Addr.add_zero'] at hx214_0)
            (try rw [show ((0 : Int)).toNat = 0 from rfl] at hx214_1)
            (try rw [show 0 * 4 = 0 from rfl] at hx214_1)
            (try rw [Addr.add_zero'] at hx214_1)
            (try rw [show ((0 : Int)).toNat = 0 from rfl] at hx214_2)
            (try rw [show 0 * 4 = 0 from rfl] at hx214_2)
            (try rw [Addr.add_zero'] at hx214_2)
            (try rw [show ((0 : Int)).toNat = 0 from rfl] at hx214_3)
            (try rw [show 0 * 4 = 0 from rfl] at hx214_3)
            (try rw [Addr.add_zero'] at hx214_3)
            replace hx214_0 := hcB HB.out hx214_0
            replace hx214_1 := hcB HB.out hx214_1
            replace hx214_2 := hcB HB.out hx214_2
            replace hx214_3 := hcB HB.out hx214_3
            have HR214_3 := Aside0.mk hi214_3
            have HC214_3 := Aside0.mk hl214_3
            clear hi214_3 hl214_3
            replace p214 := eq_true p214
            replace q214 := eq_true q214
            go_wp2
            go_roundg k2
            case measure => have := HJ1.out; have := HK2.out; omega
            case rel => exact ⟨(wrap64 (x3_2 + 1)), rq, H', ⟨by have := HJ1.out; have := HK2.out; omega⟩, ⟨bU BK206.out⟩, ⟨bl⟩⟩
           ·obtain rfl := Option.some.inj H
            obtain ⟨hcz27_0, hcz27_1, hcz27_2, hcz27_3, hfz27_0, hfz27_1, hfz27_2, hfz27_3⟩ := cz4f BK206.out
            have p211 : 0 ≤ (x3_2 : Int) := dt
            have q211 : x3_2 < (l0_3.length : Int) := dt
            obtain ⟨ad211, A211_3, c211_3, e211, hx211_0, hx211_1, hx211_2, hx211_3, hl211_3, hi211_3⟩ := at_T33 HR0_3.out x3_2 p211 q211
            cases e211
            replace hx211_0 := hcB HB.out hx211_0
            replace hx211_1 := hcB HB.out hx211_1
            replace hx211_2 := hcB HB.out hx211_2
            replace hx211_3 := hcB HB.out hx211_3
            have HR211_3 := Aside0.mk hi211_3
            have HC211_3 := Aside0.mk hl211_3
            clear hi211_3 hl211_3
            replace p211 := eq_true p211
            replace q211 := eq_true q211
            have p212 : 0 ≤ (x3_2 : Int) := dt
            have q212 : x3_2 < (l0_3.length : Int) := dt
            obtain ⟨ad212, A212_3, c212_3, e212, hx212_0, hx212_1, hx212_2, hx212_3, hl212_3, hi212_3⟩ := at_T33 HR0_3.out x3_2 p212 q212
            obtain rfl : ad211 = ad212 := (by injection e212)
            replace hx212_0 := hcB HB.out hx212_0
            replace hx212_1 := hcB HB.out hx212_1
            replace hx212_2 := hcB HB.out hx212_2
            replace hx212_3 := hcB HB.out hx212_3
            have HR212_3 := Aside0.mk hi212_3
            have HC212_3 := Aside0.mk hl212_3
            clear hi212_3 hl212_3
            replace p212 := eq_true p212
            replace q212 := eq_true q212
            have ea_ := Option.some.inj (hx211_3.symm.trans hx212_3)
            injection ea_ with ea_ en_ ec_
            subst ea_
            subst ec_
            clear en_
            have p213 : 0 ≤ (x3_2 : Int) := dt
            have q213 : x3_2 < (l0_3.length : Int) := dt
            obtain ⟨ad213, A213_3, c213_3, e213, hx213_0, hx213_1, hx213_2, hx213_3, hl213_3, hi213_3⟩ := at_T33 HR0_3.out x3_2 p213 q213
            obtain rfl : ad211 = ad213 := (by injection e213)
            replace hx213_0 := hcB HB.out hx213_0
            replace hx213_1 := hcB HB.out hx213_1
            replace hx213_2 := hcB HB.out hx213_2
            replace hx213_3 := hcB HB.out hx213_3
            have HR213_3 := Aside0.mk hi213_3
            have HC213_3 := Aside0.mk hl213_3
            clear hi213_3 hl213_3
            replace p213 := eq_true p213
            replace q213 := eq_true q213
            have ea_ := Option.some.inj (hx211_3.symm.trans hx213_3)
            injection ea_ with ea_ en_ ec_
            subst ea_
            subst ec_
            clear en_
            have p214 : 0 ≤ (0 : Int) := (by omega)
            have q214 : 0 < (((rd_T33 l0_3 x3_2).f3).length : Int) := dt
            obtain ⟨ad214, A214_3, c214_3, e214, hx214_0, hx214_1, hx214_2, hx214_3, hl214_3, hi214_3⟩ := at_T33 HR213_3.out 0 p214 q214
            cases e214
            have qi214 : (0 < ((rd_T33 l0_3 x3_2).f3).length) = True := eq_true (by omega)
            (try rw [show ((0 : Int)).toNat = 0 from rfl] at hx214_0)
            (try rw [show 0 * 4 = 0 from rfl] at hx214_0)
            (try rw [Addr.add_zero'] at hx214_0)
            (try rw [show ((0 : Int)).toNat = 0 from rfl] at hx214_1)
            (try rw [show 0 * 4 = 0 from rfl] at hx214_1)
            (try rw [Addr.add_zero'] at hx214_1)
            (try rw [show ((0 : Int)).toNat = 0 from rfl] at hx214_2)
            (try rw [show 0 * 4 = 0 from rfl] at hx214_2)
            (try rw [Addr.add_zero'] at hx214_2)
            (try rw [show ((0 : Int)).toNat = 0 from rfl] at hx214_3)
            (try rw [show 0 * 4 = 0 from rfl] at hx214_3)
            (try rw [Addr.add_zero'] at hx214_3)
            replace hx214_0 := hcB HB.out hx214_0
            replace hx214_1 := hcB HB.out hx214_1
            replace hx214_2 := hcB HB.out hx214_2
            replace hx214_3 := hcB HB.out hx214_3
            have HR214_3 := Aside0.mk hi214_3
            have HC214_3 := Aside0.mk hl214_3
            clear hi214_3 hl214_3
            replace p214 := eq_true p214
            replace q214 := eq_true q214
            go_wp2
            go_ret
            exact ⟨re, bl⟩
          ·rw [if_neg c24] at H
           exact absurd H (by simp)
        ·obtain rfl := Option.some.inj H
         obtain ⟨hcz28_0, hcz28_1, hcz28_2, hcz28_3, hfz28_0, hfz28_1, hfz28_2, hfz28_3⟩ := cz4f BK206.out
         have p211 : 0 ≤ (x3_2 : Int) := dt
         have q211 : x3_2 < (l0_3.length : Int) := dt
         obtain ⟨ad211, A211_3, c211_3, e211, hx211_0, hx211_1, hx211_2, hx211_3, hl211_3, hi211_3⟩ := at_T33 HR0_3.out x3_2 p211 q211
         cases e211
         replace hx211_0 := hcB HB.out hx211_0
         replace hx211_1 := hcB HB.out hx211_1
         replace hx211_2 := hcB HB.out hx211_2
         replace hx211_3 := hcB HB.out hx211_3
         have HR211_3 := Aside0.mk hi211_3
         have HC211_3 := Aside0.mk hl211_3
         clear hi211_3 hl211_3
         replace p211 := eq_true p211
         replace q211 := eq_true q211
         go_wp2
         go_ret
         exact ⟨re, bl⟩
       ·rw [if_neg c20] at H
        exact absurd H (by simp)
      ·by_cases c29 : 3 < (l0_3.length : Int)
       ·rw [if_pos c29] at H
        have c29b0 := decide_eq_true c29
        have c29b1 : decide (3 < l0_3.length) = true := decide_eq_true (by omega)
        clear c29
        obtain ⟨⟨t216, t217, t218, t219, t220, t221⟩, A30, H⟩ := oB H
        try dsimp only at H
        obtain rfl := Option.some.inj H
        obtain ⟨hcz31_0, hcz31_1, hcz31_2, hcz31_3, hfz31_0, hfz31_1, hfz31_2, hfz31_3⟩ := cz4f BK206.out
        have p215 : 0 ≤ (3 : Int) := (by omega)
        have q215 : 3 < (l0_3.length : Int) := dt
        obtain ⟨ad215, A215_3, c215_3, e215, hx215_0, hx215_1, hx215_2, hx215_3, hl215_3, hi215_3⟩ := at_T33 HR0_3.out 3 p215 q215
        cases e215
        (try simp only [show (3 : Int).toNat = 3 from rfl, Nat.reduceMul, Nat.reduceEqDiff, Go.Addr.add, ↓reduceIte] at hx215_0)
        (try simp only [show (3 : Int).toNat = 3 from rfl, Nat.reduceMul, Nat.reduceEqDiff, Go.Addr.add, ↓reduceIte] at hx215_1)
        (try simp only [show (3 : Int).toNat = 3 from rfl, Nat.reduceMul, Nat.reduceEqDiff, Go.Addr.add, ↓reduceIte] at hx215_2)
        (try simp only [show (3 : Int).toNat = 3 from rfl, Nat.reduceMul, Nat.reduceEqDiff, Go.Addr.add, ↓reduceIte] at hx215_3)
        have qi215 : (3 < l0_3.length) = True := eq_true (by omega)
        (try rw [show ((3 : Int)).toNat = 3 from rfl] at hx215_0)
        (try rw [show 3 * 4 = 12 from rfl] at hx215_0)
        (try rw [show ((3 : Int)).toNat = 3 from rfl] at hx215_1)
        (try rw [show 3 * 4 = 12 from rfl] at hx215_1)
        (try rw [show ((3 : Int)).toNat = 3 from rfl] at hx215_2)
        (try rw [show 3 * 4 = 12 from rfl] at hx215_2)
        (try rw [show ((3 : Int)).toNat = 3 from rfl] at hx215_3)
        (try rw [show 3 * 4 = 12 from rfl] at hx215_3)
        replace hx215_0 := hcB HB.out hx215_0
        replace hx215_1 := hcB HB.out hx215_1
        replace hx215_2 := hcB HB.out hx215_2
        replace hx215_3 := hcB HB.out hx215_3
        have HR215_3 := Aside0.mk hi215_3
        have HC215_3 := Aside0.mk hl215_3
        clear hi215_3 hl215_3
        replace p215 := eq_true p215
        replace q215 := eq_true q215
        go_wp2_with (first | (refine gF 43 89 Tryd.func43 #[.agg #[.int .i64 ((rd_T33 l0_3 3).f0), .string ((rd_T33 l0_3 3).f1), .int .i64 ((rd_T33 l0_3 3).f2), .slice A215_3 ((rd_T33 l0_3 3).f3).length c215_3]] rfl rfl ?_; (with_reducible refine (incunableref25_shape.calls k2 ((rd_T33 l0_3 3).f0) ((rd_T33 l0_3 3).f1) ((rd_T33 l0_3 3).f2) _ _ ((rd_T33 l0_3 3).f3) t216 t217 t218 t219 t220 t221 _ ?side1 ?side2 A30.out).mono ?_); (case side1 => exact cU (Kd.C_below HR215_3.out HB.out)); (case side2 => exact HC215_3.out); rintro e w32 ⟨rfl, hb⟩; refine ⟨_, rfl, ?_⟩; have n_ := aC (blk_below (bU BK206.out) hb) (aE (bs hb)); clear BK206 HB; obtain ⟨BK206, HB⟩ := n_) | ((with_reducible refine gd 4 rfl ?_); (try (refine gate_guard (by rfl) ?_; dsimp only)); refine bx 4 #[.int .i64 0, .int .i64 0, .int .i64 0, .int .i64 0] 39 rfl rfl ?_; intro gb222 hg w33 hbox hb; have n_ := aC (blk_below (bU BK206.out) hb) (aC (bs hb) (aC hbox (aC (gz hg) (aC (gz hg) (aC (gn hg (bU BK206.out)) (aE (gm hg (bU BK206.out)))))))); clear BK206 HB; obtain ⟨BK206, HB, BK222, GW222, GE222, NB206_222, NB222_206⟩ := n_; clear hb hbox hg; have hnb34 := NB222_206.out; have hnc34 := NB206_222.out; obtain ⟨hcz35_0, hcz35_1, hcz35_2, hcz35_3, hfz35_0, hfz35_1, hfz35_2, hfz35_3⟩ := cz4f BK222.out))
        go_ret
        exact ⟨re, bl⟩
       ·rw [if_neg c29] at H
        exact absurd H (by simp)
end Go.Proofs.YtacdchogjpeffaaDoor.PNoteAreas
