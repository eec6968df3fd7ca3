-- printed (wip/tools/myprint.py)
import Derived.Test.YtacdchogjpeffaaDoorPNoteHitsx0
import Derived.Test.YtacdchogjpeffaaDoorPNoteHitsx10
namespace Go.Proofs.YtacdchogjpeffaaDoor.PNoteHits
open Go.RowKit Go.Proofs.YtacdchogjpeffaaDoorW.PrintWords Go.Proofs.YtacdchogjpeffaaDoorW.PrintLast Go.Proofs.YtacdchogjpeffaaDoorW.PrintMore
attribute [local go_sem] max2_int min2_int max_two min_two max_three min_three max_four min_four
set_option linter.unusedVariables false
set_option linter.unusedSimpArgs false
mutual
def incunableref25_isNote.j0 : Nat → Bool → Int → ByteArray → Int → List (S33) → Option (Bool)
 | 0, _, _, _, _, _ => none
 | k + 1, x47, x215000, x215001, x215002, x215003 => if x47 = true then (some false) else (incunableref25_isNote.l0 k 4 x215000 x215001 x215002 x215003)
def incunableref25_isNote.l0 : Nat → Int → Int → ByteArray → Int → List (S33) → Option (Bool)
 | 0, _, _, _, _, _ => none
 | k + 1, x3, x215000, x215001, x215002, x215003 => if x3 < (x215003.length : Int) then (if 0 ≤ x3 then (if ((rd_T33 x215003 x3).f0) = 0 then (if (((rd_T33 x215003 x3).f3).length : Int) = 0 then (some false) else (if 0 < (((rd_T33 x215003 x3).f3).length : Int) then (if ((rd_T33 ((rd_T33 x215003 x3).f3) 0).f0) = 1 then (incunableref25_isNote.l0 k (wrap64 (x3 + 1)) x215000 x215001 x215002 x215003) else (some false)) else (none))) else (some false)) else (none)) else (if 3 < (x215003.length : Int) then ((incunableref25_shape.f k ((rd_T33 x215003 3).f0) ((rd_T33 x215003 3).f1) ((rd_T33 x215003 3).f2) ((rd_T33 x215003 3).f3)).bind fun bt224 => (some bt224.2.2.2.2.2)) else (none))
end
def incunableref25_isNote.f (k : Nat) (a0_0 : Int) (a0_1 : ByteArray) (a0_2 : Int) (l0_3 : List (S33)) : Option (Bool) := if a0_0 = 0 then (if (l0_3.length : Int) < 4 then (incunableref25_isNote.j0 k true a0_0 a0_1 a0_2 l0_3) else (if 0 < (l0_3.length : Int) then (if ((rd_T33 l0_3 0).f0) = 1 then (if ((rd_T33 l0_3 0).f1).toList = ([97, 114, 101, 97] : List UInt8) then (if 1 < (l0_3.length : Int) then (if ((rd_T33 l0_3 1).f0) = 3 then (if 2 < (l0_3.length : Int) then (incunableref25_isNote.j0 k (((rd_T33 l0_3 2).f0) != 3) a0_0 a0_1 a0_2 l0_3) else (none)) else (incunableref25_isNote.j0 k true a0_0 a0_1 a0_2 l0_3)) else (none)) else (incunableref25_isNote.j0 k true a0_0 a0_1 a0_2 l0_3)) else (incunableref25_isNote.j0 k true a0_0 a0_1 a0_2 l0_3)) else (none))) else (incunableref25_isNote.j0 k true a0_0 a0_1 a0_2 l0_3)
theorem incunableref25_isNote.mono_l : ∀ k, (∀ y0 y1 y2 y3 y4, LeO (incunableref25_isNote.j0 k y0 y1 y2 y3 y4) (incunableref25_isNote.j0 (k + 1) y0 y1 y2 y3 y4)) ∧ (∀ y0 y1 y2 y3 y4, LeO (incunableref25_isNote.l0 k y0 y1 y2 y3 y4) (incunableref25_isNote.l0 (k + 1) y0 y1 y2 y3 y4))
 | 0 => ⟨fun _ _ _ _ _ r h => by simp [incunableref25_isNote.j0] at h, fun _ _ _ _ _ r h => by simp [incunableref25_isNote.l0] at h⟩
 | k + 1 => by
  obtain ⟨ih0, ih1⟩ := incunableref25_isNote.mono_l k
  refine ⟨?_, ?_⟩
  ·intro y0 y1 y2 y3 y4
   unfold incunableref25_isNote.j0
   repeat' first
   | (with_reducible exact ih0 _ _ _ _ _)
   | (with_reducible exact ih1 _ _ _ _ _)
   | (with_reducible exact incunableref25_shape.mono _ _ _ _ _)
   | (with_reducible first | exact LeO.refl _ | exact LeO.none _ | refine LeO.ite ?_ ?_ | refine LeO.bind ?_ (fun _ => ?_))
  ·intro y0 y1 y2 y3 y4
   unfold incunableref25_isNote.l0
   repeat' first
   | (with_reducible exact ih0 _ _ _ _ _)
   | (with_reducible exact ih1 _ _ _ _ _)
   | (with_reducible exact incunableref25_shape.mono _ _ _ _ _)
   | (with_reducible first | exact LeO.refl _ | exact LeO.none _ | refine LeO.ite ?_ ?_ | refine LeO.bind ?_ (fun _ => ?_))
theorem incunableref25_isNote.mono : ∀ a0 a1 a2 a3 k, LeO (incunableref25_isNote.f k a0 a1 a2 a3) (incunableref25_isNote.f (k + 1) a0 a1 a2 a3) := by
 intro a0 a1 a2 a3 k
 obtain ⟨ih0, ih1⟩ := incunableref25_isNote.mono_l k
 unfold incunableref25_isNote.f
 repeat' first
   | (with_reducible exact ih0 _ _ _ _ _)
   | (with_reducible exact ih1 _ _ _ _ _)
   | (with_reducible exact incunableref25_shape.mono _ _ _ _ _)
   | (with_reducible first | exact LeO.refl _ | exact LeO.none _ | refine LeO.ite ?_ ?_ | refine LeO.bind ?_ (fun _ => ?_))
set_option maxHeartbeats 8000000 in
set_option maxRecDepth 100000 in
theorem incunableref25_isNote.calls (k : Nat) (a0_0 : Int) (a0_1 : ByteArray) (a0_2 : Int) (A0_3 : Option Addr) (c0_3 : Nat) (l0_3 : List (S33)) (r : Bool) (w : World) (hr0_3 : Kd.C k33 w A0_3 l0_3.length l0_3) (hc0_3 : l0_3.length ≤ c0_3) (h : incunableref25_isNote.f k a0_0 a0_1 a0_2 l0_3 = some r) :
  Calls Tryd.prog 47 #[.agg #[.int .i64 a0_0, .string a0_1, .int .i64 a0_2, .slice A0_3 l0_3.length c0_3]] w fun e w' => e = .returned (.bool r) ∧ Below w.heap.size w w' := by
 have hu33 := Tryd.underlying33
 have hu39 := Tryd.underlying39
 have HR0_3 := Aside0.mk hr0_3
 have HC0_3 := Aside0.mk hc0_3
 clear hr0_3 hc0_3
 have HB := Aside0.mk (Below.refl w.heap.size w)
 have H := h
 unfold incunableref25_isNote.f at H
 clear h
 have HC2 := Aside0.mk H
 clear H
 go_enter Tryd.func47, Tryd.ntmps47
 go_upto_region 1 with (first | ((with_reducible refine gd 1 rfl ?_); (try (refine gate_guard (by rfl) ?_; dsimp only)); refine bx 1 #[.int .i64 a0_0, .string a0_1, .int .i64 a0_2, .slice A0_3 l0_3.length c0_3] 33 rfl rfl ?_; intro gb214 hg w3 hbox hb; have n_ := aC (bs hb) (aC hbox (aC (gz hg) (aE (gz hg)))); clear HB; obtain ⟨HB, BK214, GW214, GE214⟩ := n_; clear hb hbox hg))
 (try simp only [Act.put, List.setIfInBounds_toArray, List.set_cons_zero, List.set_cons_succ])
 go_cut [47] (fun v47 wc => ∃ (kq : Nat) (x47_1 : Bool), v47 = .bool x47_1 ∧ Aside0 (incunableref25_isNote.j0 kq x47_1 a0_0 a0_1 a0_2 l0_3 = some r) ∧ Aside0 (kq ≤ k) ∧ Aside0 (wc.heap[gb214]? = some (.cells #[.int .i64 a0_0, .string a0_1, .int .i64 a0_2, (.slice A0_3 l0_3.length c0_3)] 33 (0, 0))) ∧ Aside0 (Below w.heap.size w wc))
 case first =>
  have H := HC2.out
  clear HC2
  rcases iE H with H1 | H1 <;> clear H <;> obtain ⟨H, c4b0, c4b1, c4⟩ := H1
  ·(first | rw [c4b0] | (simp only [i64_w, i32_w]; rw [c4b0]) | skip)
   by_cases c5 : (l0_3.length : Int) < 4
   ·rw [if_pos c5] at H
    have c5b0 := decide_eq_true c5
    have c5b1 : decide (l0_3.length < 4) = true := decide_eq_true (by omega)
    clear c5
    have H' := Aside0.mk H
    clear H
    obtain ⟨hcz6_0, hcz6_1, hcz6_2, hcz6_3, hfz6_0, hfz6_1, hfz6_2, hfz6_3⟩ := cz4f BK214.out
    go_wp2
    go_meet
    case rel => exact ⟨_, (true), rq, H', ⟨by first | omega | exact Nat.le_refl _⟩, ⟨bU BK214.out⟩, ⟨bl⟩⟩
   ·rw [if_neg c5] at H
    have c5b0 := decide_eq_false c5
    have c5b1 : decide (l0_3.length < 4) = false := decide_eq_false (by omega)
    clear c5
    by_cases c7 : 0 < (l0_3.length : Int)
    ·rw [if_pos c7] at H
     have c7b0 := decide_eq_true c7
     have c7b1 : decide (0 < l0_3.length) = true := decide_eq_true (by omega)
     clear c7
     rcases iE H with H1 | H1 <;> clear H <;> obtain ⟨H, c8b0, c8b1, c8⟩ := H1
     ·rcases iE H with H1 | H1 <;> clear H <;> obtain ⟨H, c9b0, c9b1, c9⟩ := H1
      ·by_cases c10 : 1 < (l0_3.length : Int)
       ·rw [if_pos c10] at H
        have c10b0 := decide_eq_true c10
        have c10b1 : decide (1 < l0_3.length) = true := decide_eq_true (by omega)
        clear c10
        rcases iE H with H1 | H1 <;> clear H <;> obtain ⟨H, c11b0, c11b1, c11⟩ := H1
        ·by_cases c12 : 2 < (l0_3.length : Int)
         ·rw [if_pos c12] at H
          have c12b0 := decide_eq_true c12
          have c12b1 : decide (2 < l0_3.length) = true := decide_eq_true (by omega)
          clear c12
          have H' := Aside0.mk H
          clear H
          obtain ⟨hcz13_0, hcz13_1, hcz13_2, hcz13_3, hfz13_0, hfz13_1, hfz13_2, hfz13_3⟩ := cz4f BK214.out
          have p215 : 0 ≤ (0 : Int) := (by omega)
          have q215 : 0 < (l0_3.length : Int) := dt
          obtain ⟨ad215, A215_3, c215_3, e215, hx215_0, hx215_1, hx215_2, hx215_3, hl215_3, hi215_3⟩ := at_T33 HR0_3.out 0 p215 q215
          cases e215
          have qi215 : (0 < l0_3.length) = True := eq_true (by omega)
          (try rw [show ((0 : Int)).toNat = 0 from rfl] at hx215_0)
          (try rw [show 0 * 4 = 0 from rfl] at hx215_0)
          (try rw [Addr.add_zero'] at hx215_0)
          (try rw [show ((0 : Int)).toNat = 0 from rfl] at hx215_1)
          (try rw [show 0 * 4 = 0 from rfl] at hx215_1)
          (try rw [Addr.add_zero'] at hx215_1)
          (try rw [show ((0 : Int)).toNat = 0 from rfl] at hx215_2)
          (try rw [show 0 * 4 = 0 from rfl] at hx215_2)
          (try rw [Addr.add_zero'] at hx215_2)
          (try rw [show ((0 : Int)).toNat = 0 from rfl] at hx215_3)
          (try rw [show 0 * 4 = 0 from rfl] at hx215_3)
          (try rw [Addr.add_zero'] at hx215_3)
          replace hx215_0 := hcB HB.out hx215_0
          replace hx215_1 := hcB HB.out hx215_1
          replace hx215_2 := hcB HB.out hx215_2
          replace hx215_3 := hcB HB.out hx215_3
          have HR215_3 := Aside0.mk hi215_3
          have HC215_3 := Aside0.mk hl215_3
          clear hi215_3 hl215_3
          replace p215 := eq_true p215
          replace q215 := eq_true q215
          have p216 : 0 ≤ (0 : Int) := (by omega)
          have q216 : 0 < (l0_3.length : Int) := dt
          obtain ⟨ad216, A216_3, c216_3, e216, hx216_0, hx216_1, hx216_2, hx216_3, hl216_3, hi216_3⟩ := at_T33 HR0_3.out 0 p216 q216
          obtain rfl : ad215 = ad216 := (by injection e216)
          have qi216 : (0 < l0_3.length) = True := eq_true (by omega)
          (try rw [show ((0 : Int)).toNat = 0 from rfl] at hx216_0)
          (try rw [show 0 * 4 = 0 from rfl] at hx216_0)
          (try rw [Addr.add_zero'] at hx216_0)
          (try rw [show ((0 : Int)).toNat = 0 from rfl] at hx216_1)
          (try rw [show 0 * 4 = 0 from rfl] at hx216_1)
          (try rw [Addr.add_zero'] at hx216_1)
          (try rw [show ((0 : Int)).toNat = 0 from rfl] at hx216_2)
          (try rw [show 0 * 4 = 0 from rfl] at hx216_2)
          (try rw [Addr.add_zero'] at hx216_2)
          (try rw [show ((0 : Int)).toNat = 0 from rfl] at hx216_3)
          (try rw [show 0 * 4 = 0 from rfl] at hx216_3)
          (try rw [Addr.add_zero'] at hx216_3)
          replace hx216_0 := hcB HB.out hx216_0
          replace hx216_1 := hcB HB.out hx216_1
          replace hx216_2 := hcB HB.out hx216_2
          replace hx216_3 := hcB HB.out hx216_3
          have HR216_3 := Aside0.mk hi216_3
          have HC216_3 := Aside0.mk hl216_3
          clear hi216_3 hl216_3
          replace p216 := eq_true p216
          replace q216 := eq_true q216
          have ea_ := Option.some.inj (hx215_3.symm.trans hx216_3)
          injection ea_ with ea_ en_ ec_
          subst ea_
          subst ec_
          clear en_
          have p217 : 0 ≤ (1 : Int) := (by omega)
          have q217 : 1 < (l0_3.length : Int) := dt
          obtain ⟨ad217, A217_3, c217_3, e217, hx217_0, hx217_1, hx217_2, hx217_3, hl217_3, hi217_3⟩ := at_T33 HR0_3.out 1 p217 q217
          obtain rfl : ad215 = ad217 := (by injection e217)
          (try simp only [show (1 : Int).toNat = 1 from rfl, Nat.reduceMul, Nat.reduceEqDiff, Go.Addr.add, ↓reduceIte] at hx217_0)
          (try simp only [show (1 : Int).toNat = 1 from rfl, Nat.reduceMul, Nat.reduceEqDiff, Go.Addr.add, ↓reduceIte] at hx217_1)
          (try simp only [show (1 : Int).toNat = 1 from rfl, Nat.reduceMul, Nat.reduceEqDiff, Go.Addr.add, ↓reduceIte] at hx217_2)
          (try simp only [show (1 : Int).toNat = 1 from rfl, Nat.reduceMul, Nat.reduceEqDiff, Go.Addr.add, ↓reduceIte] at hx217_3)
          have qi217 : (1 < l0_3.length) = True := eq_true (by omega)
          (try rw [show ((1 : Int)).toNat = 1 from rfl] at hx217_0)
          (try rw [show 1 * 4 = 4 from rfl] at hx217_0)
          (try rw [show ((1 : Int)).toNat = 1 from rfl] at hx217_1)
          (try rw [show 1 * 4 = 4 from rfl] at hx217_1)
          (try rw [show ((1 : Int)).toNat = 1 from rfl] at hx217_2)
          (try rw [show 1 * 4 = 4 from rfl] at hx217_2)
          (try rw [show ((1 : Int)).toNat = 1 from rfl] at hx217_3)
          (try rw [show 1 * 4 = 4 from rfl] at hx217_3)
          replace hx217_0 := hcB HB.out hx217_0
          replace hx217_1 := hcB HB.out hx217_1
          replace hx217_2 := hcB HB.out hx217_2
          replace hx217_3 := hcB HB.out hx217_3
          have HR217_3 := Aside0.mk hi217_3
          have HC217_3 := Aside0.mk hl217_3
          clear hi217_3 hl217_3
          replace p217 := eq_true p217
          replace q217 := eq_true q217
          have p218 : 0 ≤ (2 : Int) := (by omega)
          have q218 : 2 < (l0_3.length : Int) := dt
          obtain ⟨ad218, A218_3, c218_3, e218, hx218_0, hx218_1, hx218_2, hx218_3, hl218_3, hi218_3⟩ := at_T33 HR0_3.out 2 p218 q218
          obtain rfl : ad215 = ad218 := (by injection e218)
          (try simp only [show (2 : Int).toNat = 2 from rfl, Nat.reduceMul, Nat.reduceEqDiff, Go.Addr.add, ↓reduceIte] at hx218_0)
          (try simp only [show (2 : Int).toNat = 2 from rfl, Nat.reduceMul, Nat.reduceEqDiff, Go.Addr.add, ↓reduceIte] at hx218_1)
          (try simp only [show (2 : Int).toNat = 2 from rfl, Nat.reduceMul, Nat.reduceEqDiff, Go.Addr.add, ↓reduceIte] at hx218_2)
          (try simp only [show (2 : Int).toNat = 2 from rfl, Nat.reduceMul, Nat.reduceEqDiff, Go.Addr.add, ↓reduceIte] at hx218_3)
          have qi218 : (2 < l0_3.length) = True := eq_true (by omega)
          (try rw [show ((2 : Int)).toNat = 2 from rfl] at hx218_0)
          (try rw [show 2 * 4 = 8 from rfl] at hx218_0)
          (try rw [show ((2 : Int)).toNat = 2 from rfl] at hx218_1)
          (try rw [show 2 * 4 = 8 from rfl] at hx218_1)
          (try rw [show ((2 : Int)).toNat = 2 from rfl] at hx218_2)
          (try rw [show 2 * 4 = 8 from rfl] at hx218_2)
          (try rw [show ((2 : Int)).toNat = 2 from rfl] at hx218_3)
          (try rw [show 2 * 4 = 8 from rfl] at hx218_3)
          replace hx218_0 := hcB HB.out hx218_0
          replace hx218_1 := hcB HB.out hx218_1
          replace hx218_2 := hcB HB.out hx218_2
          replace hx218_3 := hcB HB.out hx218_3
          have HR218_3 := Aside0.mk hi218_3
          have HC218_3 := Aside0.mk hl218_3
          clear hi218_3 hl218_3
          replace p218 := eq_true p218
          replace q218 := eq_true q218
          go_wp2
          go_meet
          case rel => exact ⟨_, ((((rd_T33 l0_3 2).f0) != 3)), rq, H', ⟨by first | omega | exact Nat.le_refl _⟩, ⟨bU BK214.out⟩, ⟨bl⟩⟩
         ·rw [if_neg c12] at H
          exact absurd H (by simp)
        ·have H' := Aside0.mk H
         clear H
         obtain ⟨hcz14_0, hcz14_1, hcz14_2, hcz14_3, hfz14_0, hfz14_1, hfz14_2, hfz14_3⟩ := cz4f BK214.out
         have p215 : 0 ≤ (0 : Int) := (by omega)
         have q215 : 0 < (l0_3.length : Int) := dt
         obtain ⟨ad215, A215_3, c215_3, e215, hx215_0, hx215_1, hx215_2, hx215_3, hl215_3, hi215_3⟩ := at_T33 HR0_3.out 0 p215 q215
         cases e215
         have qi215 : (0 < l0_3.length) = True := eq_true (by omega)
         (try rw [show ((0 : Int)).toNat = 0 from rfl] at hx215_0)
         (try rw [show 0 * 4 = 0 from rfl] at hx215_0)
         (try rw [Addr.add_zero'] at hx215_0)
         (try rw [show ((0 : Int)).toNat = 0 from rfl] at hx215_1)
         (try rw [show 0 * 4 = 0 from rfl] at hx215_1)
         (try rw [Addr.add_zero'] at hx215_1)
         (try rw [show ((0 : Int)).toNat = 0 from rfl] at hx215_2)
         (try rw [show 0 * 4 = 0 from rfl] at hx215_2)
         (try rw [Addr.add_zero'] at hx215_2)
         (try rw [show ((0 : Int)).toNat = 0 from rfl] at hx215_3)
         (try rw [show 0 * 4 = 0 from rfl] at hx215_3)
         (try rw [Addr.add_zero'] at hx215_3)
         replace hx215_0 := hcB HB.out hx215_0
         replace hx215_1 := hcB HB.out hx215_1
         replace hx215_2 := hcB HB.out hx215_2
         replace hx215_3 := hcB HB.out hx215_3
         have HR215_3 := Aside0.mk hi215_3
         have HC215_3 := Aside0.mk hl215_3
         clear hi215_3 hl215_3
         replace p215 := eq_true p215
         replace q215 := eq_true q215
         have p216 : 0 ≤ (0 : Int) := (by omega)
         have q216 : 0 < (l0_3.length : Int) := dt
         obtain ⟨ad216, A216_3, c216_3, e216, hx216_0, hx216_1, hx216_2, hx216_3, hl216_3, hi216_3⟩ := at_T33 HR0_3.out 0 p216 q216
         obtain rfl : ad215 = ad216 := (by injection e216)
         have qi216 : (0 < l0_3.length) = True := eq_true (by omega)
         (try rw [show ((0 : Int)).toNat = 0 from rfl] at hx216_0)
         (try rw [show 0 * 4 = 0 from rfl] at hx216_0)
         (try rw [Addr.add_zero'] at hx216_0)
         (try rw [show ((0 : Int)).toNat = 0 from rfl] at hx216_1)
         (try rw [show 0 * 4 = 0 from rfl] at hx216_1)
         (try rw [Addr.add_zero'] at hx216_1)
         (try rw [show ((0 : Int)).toNat = 0 from rfl] at hx216_2)
         (try rw [show 0 * 4 = 0 from rfl] at hx216_2)
         (try rw [Addr.add_zero'] at hx216_2)
         (try rw [show ((0 : Int)).toNat = 0 from rfl] at hx216_3)
         (try rw [show 0 * 4 = 0 from rfl] at hx216_3)
         (try rw [Addr.add_zero'] at hx216_3)
         replace hx216_0 := hcB HB.out hx216_0
         replace hx216_1 := hcB HB.out hx216_1
         replace hx216_2 := hcB HB.out hx216_2
         replace hx216_3 := hcB HB.out hx216_3
         have HR216_3 := Aside0.mk hi216_3
         have HC216_3 := Aside0.mk hl216_3
         clear hi216_3 hl216_3
         replace p216 := eq_true p216
         replace q216 := eq_true q216
         have ea_ := Option.some.inj (hx215_3.symm.trans hx216_3)
         injection ea_ with ea_ en_ ec_
         subst ea_
         subst ec_
         clear en_
         have p217 : 0 ≤ (1 : Int) := (by omega)
         have q217 : 1 < (l0_3.length : Int) := dt
         obtain ⟨ad217, A217_3, c217_3, e217, hx217_0, hx217_1, hx217_2, hx217_3, hl217_3, hi217_3⟩ := at_T33 HR0_3.out 1 p217 q217
         obtain rfl : ad215 = ad217 := (by injection e217)
         (try simp only [show (1 : Int).toNat = 1 from rfl, Nat.reduceMul, Nat.reduceEqDiff, Go.Addr.add, ↓reduceIte] at hx217_0)
         (try simp only [show (1 : Int).toNat = 1 from rfl, Nat.reduceMul, Nat.reduceEqDiff, Go.Addr.add, ↓reduceIte] at hx217_1)
         (try simp only [show (1 : Int).toNat = 1 from rfl, Nat.reduceMul, Nat.reduceEqDiff, Go.Addr.add, ↓reduceIte] at hx217_2)
         (try simp only [show (1 : Int).toNat = 1 from rfl, Nat.reduceMul, Nat.reduceEqDiff, Go.Addr.add, ↓reduceIte] at hx217_3)
         have qi217 : (1 < l0_3.length) = True := eq_true (by omega)
         (try rw [show ((1 : Int)).toNat = 1 from rfl] at hx217_0)
         (try rw [show 1 * 4 = 4 from rfl] at hx217_0)
         (try rw [show ((1 : Int)).toNat = 1 from rfl] at hx217_1)
         (try rw [show 1 * 4 = 4 from rfl] at hx217_1)
         (try rw [show ((1 : Int)).toNat = 1 from rfl] at hx217_2)
         (try rw [show 1 * 4 = 4 from rfl] at hx217_2)
         (try rw [show ((1 : Int)).toNat = 1 from rfl] at hx217_3)
         (try rw [show 1 * 4 = 4 from rfl] at hx217_3)
         replace hx217_0 := hcB HB.out hx217_0
         replace hx217_1 := hcB HB.out hx217_1
         replace hx217_2 := hcB HB.out hx217_2
         replace hx217_3 := hcB HB.out hx217_3
         have HR217_3 := Aside0.mk hi217_3
         have HC217_3 := Aside0.mk hl217_3
         clear hi217_3 hl217_3
         replace p217 := eq_true p217
         replace q217 := eq_true q217
         go_wp2
         go_meet
         case rel => exact ⟨_, (true), rq, H', ⟨by first | omega | exact Nat.le_refl _⟩, ⟨bU BK214.out⟩, ⟨bl⟩⟩
       ·rw [if_neg c10] at H
        exact absurd H (by simp)
      ·have H' := Aside0.mk H
       clear H
       obtain ⟨hcz15_0, hcz15_1, hcz15_2, hcz15_3, hfz15_0, hfz15_1, hfz15_2, hfz15_3⟩ := cz4f BK214.out
       have p215 : 0 ≤ (0 : Int) := (by omega)
       have q215 : 0 < (l0_3.length : Int) := dt
       obtain ⟨ad215, A215_3, c215_3, e215, hx215_0, hx215_1, hx215_2, hx215_3, hl215_3, hi215_3⟩ := at_T33 HR0_3.out 0 p215 q215
       cases e215
       have qi215 : (0 < l0_3.length) = True := eq_true (by omega)
       (try rw [show ((0 : Int)).toNat = 0 from rfl] at hx215_0)
       (try rw [show 0 * 4 = 0 from rfl] at hx215_0)
       (try rw [Addr.add_zero'] at hx215_0)
       (try rw [show ((0 : Int)).toNat = 0 from rfl] at hx215_1)
       (try rw [show 0 * 4 = 0 from rfl] at hx215_1)
       (try rw [Addr.add_zero'] at hx215_1)
       (try rw [show ((0 : Int)).toNat = 0 from rfl] at hx215_2)
       (try rw [show 0 * 4 = 0 from rfl] at hx215_2)
       (try rw [Addr.add_zero'] at hx215_2)
       (try rw [show ((0 : Int)).toNat = 0 from rfl] at hx215_3)
       (try rw [show 0 * 4 = 0 from rfl] at hx215_3)
       (try rw [Addr.add_zero'] at hx215_3)
       replace hx215_0 := hcB HB.out hx215_0
       replace hx215_1 := hcB HB.out hx215_1
       replace hx215_2 := hcB HB.out hx215_2
       replace hx215_3 := hcB HB.out hx215_3
       have HR215_3 := Aside0.mk hi215_3
       have HC215_3 := Aside0.mk hl215_3
       clear hi215_3 hl215_3
       replace p215 := eq_true p215
       replace q215 := eq_true q215
       have p216 : 0 ≤ (0 : Int) := (by omega)
       have q216 : 0 < (l0_3.length : Int) := dt
       obtain ⟨ad216, A216_3, c216_3, e216, hx216_0, hx216_1, hx216_2, hx216_3, hl216_3, hi216_3⟩ := at_T33 HR0_3.out 0 p216 q216
       obtain rfl : ad215 = ad216 := (by injection e216)
       have qi216 : (0 < l0_3.length) = True := eq_true (by omega)
       (try rw [show ((0 : Int)).toNat = 0 from rfl] at hx216_0)
       (try rw [show 0 * 4 = 0 from rfl] at hx216_0)
       (try rw [Addr.add_zero'] at hx216_0)
       (try rw [show ((0 : Int)).toNat = 0 from rfl] at hx216_1)
       (try rw [show 0 * 4 = 0 from rfl] at hx216_1)
       (try rw [Addr.add_zero'] at hx216_1)
       (try rw [show ((0 : Int)).toNat = 0 from rfl] at hx216_2)
       (try rw [show 0 * 4 = 0 from rfl] at hx216_2)
       (try rw [Addr.add_zero'] at hx216_2)
       (try rw [show ((0 : Int)).toNat = 0 from rfl] at hx216_3)
       (try rw [show 0 * 4 = 0 from rfl] at hx216_3)
       (try rw [Addr.add_zero'] at hx216_3)
       replace hx216_0 := hcB HB.out hx216_0
       replace hx216_1 := hcB HB.out hx216_1
       replace hx216_2 := hcB HB.out hx216_2
       replace hx216_3 := hcB HB.out hx216_3
       have HR216_3 := Aside0.mk hi216_3
       have HC216_3 := Aside0.mk hl216_3
       clear hi216_3 hl216_3
       replace p216 := eq_true p216
       replace q216 := eq_true q216
       have ea_ := Option.some.inj (hx215_3.symm.trans hx216_3)
       injection ea_ with ea_ en_ ec_
       subst ea_
       subst ec_
       clear en_
       go_wp2
       go_meet
       case rel => exact ⟨_, (true), rq, H', ⟨by first | omega | exact Nat.le_refl _⟩, ⟨bU BK214.out⟩, ⟨bl⟩⟩
     ·have H' := Aside0.mk H
      clear H
      obtain ⟨hcz16_0, hcz16_1, hcz16_2, hcz16_3, hfz16_0, hfz16_1, hfz16_2, hfz16_3⟩ := cz4f BK214.out
      have p215 : 0 ≤ (0 : Int) := (by omega)
      have q215 : 0 < (l0_3.length : Int) := dt
      obtain ⟨ad215, A215_3, c215_3, e215, hx215_0, hx215_1, hx215_2, hx215_3, hl215_3, hi215_3⟩ := at_T33 HR0_3.out 0 p215 q215
      cases e215
      have qi215 : (0 < l0_3.length) = True := eq_true (by omega)
      (try rw [show ((0 : Int)).toNat = 0 from rfl] at hx215_0)
      (try rw [show 0 * 4 = 0 from rfl] at hx215_0)
      (try rw [Addr.add_zero'] at hx215_0)
      (try rw [show ((0 : Int)).toNat = 0 from rfl] at hx215_1)
      (try rw [show 0 * 4 = 0 from rfl] at hx215_1)
      (try rw [Addr.add_zero'] at hx215_1)
      (try rw [show ((0 : Int)).toNat = 0 from rfl] at hx215_2)
      (try rw [show 0 * 4 = 0 from rfl] at hx215_2)
      (try rw [Addr.add_zero'] at hx215_2)
      (try rw [show ((0 : Int)).toNat = 0 from rfl] at hx215_3)
      (try rw [show 0 * 4 = 0 from rfl] at hx215_3)
      (try rw [Addr.add_zero'] at hx215_3)
      replace hx215_0 := hcB HB.out hx215_0
      replace hx215_1 := hcB HB.out hx215_1
      replace hx215_2 := hcB HB.out hx215_2
      replace hx215_3 := hcB HB.out hx215_3
      have HR215_3 := Aside0.mk hi215_3
      have HC215_3 := Aside0.mk hl215_3
      clear hi215_3 hl215_3
      replace p215 := eq_true p215
      replace q215 := eq_true q215
      go_wp2
      go_meet
      case rel => exact ⟨_, (true), rq, H', ⟨by first | omega | exact Nat.le_refl _⟩, ⟨bU BK214.out⟩, ⟨bl⟩⟩
    ·rw [if_neg c7] at H
     exact absurd H (by simp)
  ·(first | rw [c4b0] | (simp only [i64_w, i32_w]; rw [c4b0]) | skip)
   have H' := Aside0.mk H
   clear H
   obtain ⟨hcz17_0, hcz17_1, hcz17_2, hcz17_3, hfz17_0, hfz17_1, hfz17_2, hfz17_3⟩ := cz4f BK214.out
   go_wp2
   go_meet
   case rel => exact ⟨_, (true), rq, H', ⟨by first | omega | exact Nat.le_refl _⟩, ⟨bU BK214.out⟩, ⟨bl⟩⟩
 case rest =>
  clear HC2
  obtain ⟨kq, x47_1, rfl, HA, HJ1, BK214, HB⟩ := hcut
  cases kq with
  | zero => exact absurd HA.out (by simp [incunableref25_isNote.j0])
  | succ kj1 =>
   have H := HA.out
   clear HA
   simp only [incunableref25_isNote.j0] at H
   by_cases c18 : x47_1 = true
   ·subst c18
    rw [if_pos rfl] at H
    obtain rfl := Option.some.inj H
    go_wp2
    go_ret
    exact ⟨re, bl⟩
   ·replace c18 := Bool.eq_false_iff.mpr c18
    subst c18
    rw [if_neg Bool.false_ne_true] at H
    have H' := Aside0.mk H
    clear H
    go_wp2
    go_loopg [3] kj1 (fun kq v3 w' => ∃ (x3_2 : Int), v3 = .int .i64 x3_2 ∧ Aside0 (incunableref25_isNote.l0 kq x3_2 a0_0 a0_1 a0_2 l0_3 = some r) ∧ Aside0 (kq ≤ kj1) ∧ Aside0 (w'.heap[gb214]? = some (.cells #[.int .i64 a0_0, .string a0_1, .int .i64 a0_2, (.slice A0_3 l0_3.length c0_3)] 33 (0, 0))) ∧ Aside0 (Below w.heap.size w w'))
    case atStart => exact ⟨(4), rq, H', ⟨Nat.le_refl _⟩, ⟨bU BK214.out⟩, ⟨bl⟩⟩
    case round =>
     clear H'
     obtain ⟨x3_2, rfl, HA, HK2, BK214, HB⟩ := hrel
     cases gk with
     | zero => exact absurd HA.out (by simp [incunableref25_isNote.l0])
     | succ k2 =>
      have H := HA.out
      clear HA
      simp only [incunableref25_isNote.l0] at H
      rcases iL H with H1 | H1 <;> clear H <;> obtain ⟨H, c19b0⟩ := H1
      ·by_cases c20 : 0 ≤ x3_2
       ·rw [if_pos c20] at H
        have c20b0 := decide_eq_true c20
        clear c20
        rcases iE H with H1 | H1 <;> clear H <;> obtain ⟨H, c21b0, c21b1, c21⟩ := H1
        ·rcases iE H with H1 | H1 <;> clear H <;> obtain ⟨H, c22b0, c22b1, c22⟩ := H1
         ·obtain rfl := Option.some.inj H
          obtain ⟨hcz23_0, hcz23_1, hcz23_2, hcz23_3, hfz23_0, hfz23_1, hfz23_2, hfz23_3⟩ := cz4f BK214.out
          have p219 : 0 ≤ (x3_2 : Int) := dt
          have q219 : x3_2 < (l0_3.length : Int) := dt
          obtain ⟨ad219, A219_3, c219_3, e219, hx219_0, hx219_1, hx219_2, hx219_3, hl219_3, hi219_3⟩ := at_T33 HR0_3.out x3_2 p219 q219
          cases e219
          replace hx219_0 := hcB HB.out hx219_0
          replace hx219_1 := hcB HB.out hx219_1
          replace hx219_2 := hcB HB.out hx219_2
          replace hx219_3 := hcB HB.out hx219_3
          have HR219_3 := Aside0.mk hi219_3
          have HC219_3 := Aside0.mk hl219_3
          clear hi219_3 hl219_3
          replace p219 := eq_true p219
          replace q219 := eq_true q219
          have p220 : 0 ≤ (x3_2 : Int) := dt
          have q220 : x3_2 < (l0_3.length : Int) := dt
          obtain ⟨ad220, A220_3, c220_3, e220, hx220_0, hx220_1, hx220_2, hx220_3, hl220_3, hi220_3⟩ := at_T33 HR0_3.out x3_2 p220 q220
          obtain rfl : ad219 = ad220 := (by injection e220)
          replace hx220_0 := hcB HB.out hx220_0
          replace hx220_1 := hcB HB.out hx220_1
          replace hx220_2 := hcB HB.out hx220_2
          replace hx220_3 := hcB HB.out hx220_3
          have HR220_3 := Aside0.mk hi220_3
          have HC220_3 := Aside0.mk hl220_3
          clear hi220_3 hl220_3
          replace p220 := eq_true p220
          replace q220 := eq_true q220
          have ea_ := Option.some.inj (hx219_3.symm.trans hx220_3)
          injection ea_ with ea_ en_ ec_
          subst ea_
          subst ec_
          clear en_
          go_wp2
          go_ret
          exact ⟨re, bl⟩
         ·have c22b2 : ¬ (((rd_T33 l0_3 x3_2).f3) = []) := fun h_ => c22 (by rw [h_]; rfl)
          by_cases c24 : 0 < (((rd_T33 l0_3 x3_2).f3).length : Int)
          ·rw [if_pos c24] at H
           have c24b0 := decide_eq_true c24
           have c24b1 : decide (0 < ((rd_T33 l0_3 x3_2).f3).length) = true := decide_eq_true (by omega)
           clear c24
           rcases iE H with H1 | H1 <;> clear H <;> obtain ⟨H, c25b0, c25b1, c25⟩ := H1
           ·have H' := Aside0.mk H
            clear H
            obtain ⟨hcz26_0, hcz26_1, hcz26_2, hcz26_3, hfz26_0, hfz26_1, hfz26_2, hfz26_3⟩ := cz4f BK214.out
            have p219 : 0 ≤ (x3_2 : Int) := dt
            have q219 : x3_2 < (l0_3.length : Int) := dt
            obtain ⟨ad219, A219_3, c219_3, e219, hx219_0, hx219_1, hx219_2, hx219_3, hl219_3, hi219_3⟩ := at_T33 HR0_3.out x3_2 p219 q219
            cases e219
            replace hx219_0 := hcB HB.out hx219_0
            replace hx219_1 := hcB HB.out hx219_1
            replace hx219_2 := hcB HB.out hx219_2
            replace hx219_3 := hcB HB.out hx219_3
            have HR219_3 := Aside0.mk hi219_3
            have HC219_3 := Aside0.mk hl219_3
            clear hi219_3 hl219_3
            replace p219 := eq_true p219
            replace q219 := eq_true q219
            have p220 : 0 ≤ (x3_2 : Int) := dt
            have q220 : x3_2 < (l0_3.length : Int) := dt
            obtain ⟨ad220, A220_3, c220_3, e220, hx220_0, hx220_1, hx220_2, hx220_3, hl220_3, hi220_3⟩ := at_T33 HR0_3.out x3_2 p220 q220
            obtain rfl : ad219 = ad220 := (by injection e220)
            replace hx220_0 := hcB HB.out hx220_0
            replace hx220_1 := hcB HB.out hx220_1
            replace hx220_2 := hcB HB.out hx220_2
            replace hx220_3 := hcB HB.out hx220_3
            have HR220_3 := Aside0.mk hi220_3
            have HC220_3 := Aside0.mk hl220_3
            clear hi220_3 hl220_3
            replace p220 := eq_true p220
            replace q220 := eq_true q220
            have ea_ := Option.some.inj (hx219_3.symm.trans hx220_3)
            injection ea_ with ea_ en_ ec_
            subst ea_
            subst ec_
            clear en_
            have p221 : 0 ≤ (x3_2 : Int) := dt
            have q221 : x3_2 < (l0_3.length : Int) := dt
            obtain ⟨ad221, A221_3, c221_3, e221, hx221_0, hx221_1, hx221_2, hx221_3, hl221_3, hi221_3⟩ := at_T33 HR0_3.out x3_2 p221 q221
            obtain rfl : ad219 = ad221 := (by injection e221)
            replace hx221_0 := hcB HB.out hx221_0
            replace hx221_1 := hcB HB.out hx221_1
            replace hx221_2 := hcB HB.out hx221_2
            replace hx221_3 := hcB HB.out hx221_3
            have HR221_3 := Aside0.mk hi221_3
            have HC221_3 := Aside0.mk hl221_3
            clear hi221_3 hl221_3
            replace p221 := eq_true p221
            replace q221 := eq_true q221
            have ea_ := Option.some.inj (hx219_3.symm.trans hx221_3)
            injection ea_ with ea_ en_ ec_
            subst ea_
            subst ec_
            clear en_
            have p222 : 0 ≤ (0 : Int) := (by omega)
            have q222 : 0 < (((rd_T33 l0_3 x3_2).f3).length : Int) := dt
            obtain ⟨ad222, A222_3, c222_3, e222, hx222_0, hx222_1, hx222_2, hx222_3, hl222_3, hi222_3⟩ := at_T33 HR221_3.out 0 p222 q222
            cases e222
            have qi222 : (0 < ((rd_T33 l0_3 x3_2).f3).length) = True := eq_true (by omega)
            (try rw [show ((0 : Int)).toNat = 0 from rfl] at hx222_0)
            (try rw [show 0 * 4 = 0 from rfl] at hx222_0)
            (try rw [Addr.add_zero'] at hx222_0)
            (try rw [show ((0 : Int)).toNat = 0 from rfl] at hx222_1)
            (try rw [show 0 * 4 = 0 from rfl] at hx222_1)
            (try rw [Addr.add_zero'] at hx222_1)
            (try rw [show ((0 : Int)).toNat = 0 from rfl] at hx222_2)
            (try rw [show 0 * 4 = 0 from rfl] at hx222_2)
            (try rw [Addr.add_zero'] at hx222_2)
            (try rw [show ((0 : Int)).toNat = 0 from rfl] at hx222_3)
            (try rw [show 0 * 4 = 0 from rfl] at hx222_3)
            (try rw [Addr.add_zero'] at hx222_3)
            replace hx222_0 := hcB HB.out hx222_0
            replace hx222_1 := hcB HB.out hx222_1
            replace hx222_2 := hcB HB.out hx222_2
            replace hx222_3 := hcB HB.out hx222_3
            have HR222_3 := Aside0.mk hi222_3
            have HC222_3 := Aside0.mk hl222_3
            clear hi222_3 hl222_3
            replace p222 := eq_true p222
            replace q222 := eq_true q222
            go_wp2
            go_roundg k2
            case measure => have := HJ1.out; have := HK2.out; omega
            case rel => exact ⟨(wrap64 (x3_2 + 1)), rq, H', ⟨by have := HJ1.out; have := HK2.out; omega⟩, ⟨bU BK214.out⟩, ⟨bl⟩⟩
           ·obtain rfl := Option.some.inj H
            obtain ⟨hcz27_0, hcz27_1, hcz27_2, hcz27_3, hfz27_0, hfz27_1, hfz27_2, hfz27_3⟩ := cz4f BK214.out
            have p219 : 0 ≤ (x3_2 : Int) := dt
            have q219 : x3_2 < (l0_3.length : Int) := dt
            obtain ⟨ad219, A219_3, c219_3, e219, hx219_0, hx219_1, hx219_2, hx219_3, hl219_3, hi219_3⟩ := at_T33 HR0_3.out x3_2 p219 q219
            cases e219
            replace hx219_0 := hcB HB.out hx219_0
            replace hx219_1 := hcB HB.out hx219_1
            replace hx219_2 := hcB HB.out hx219_2
            replace hx219_3 := hcB HB.out hx219_3
            have HR219_3 := Aside0.mk hi219_3
            have HC219_3 := Aside0.mk hl219_3
            clear hi219_3 hl219_3
            replace p219 := eq_true p219
            replace q219 := eq_true q219
            have p220 : 0 ≤ (x3_2 : Int) := dt
            have q220 : x3_2 < (l0_3.length : Int) := dt
            obtain ⟨ad220, A220_3, c220_3, e220, hx220_0, hx220_1, hx220_2, hx220_3, hl220_3, hi220_3⟩ := at_T33 HR0_3.out x3_2 p220 q220
            obtain rfl : ad219 = ad220 := (by injection e220)
            replace hx220_0 := hcB HB.out hx220_0
            replace hx220_1 := hcB HB.out hx220_1
            replace hx220_2 := hcB HB.out hx220_2
            replace hx220_3 := hcB HB.out hx220_3
            have HR220_3 := Aside0.mk hi220_3
            have HC220_3 := Aside0.mk hl220_3
            clear hi220_3 hl220_3
            replace p220 := eq_true p220
            replace q220 := eq_true q220
            have ea_ := Option.some.inj (hx219_3.symm.trans hx220_3)
            injection ea_ with ea_ en_ ec_
            subst ea_
            subst ec_
            clear en_
            have p221 : 0 ≤ (x3_2 : Int) := dt
            have q221 : x3_2 < (l0_3.length : Int) := dt
            obtain ⟨ad221, A221_3, c221_3, e221, hx221_0, hx221_1, hx221_2, hx221_3, hl221_3, hi221_3⟩ := at_T33 HR0_3.out x3_2 p221 q221
            obtain rfl : ad219 = ad221 := (by injection e221)
            replace hx221_0 := hcB HB.out hx221_0
            replace hx221_1 := hcB HB.out hx221_1
            replace hx221_2 := hcB HB.out hx221_2
            replace hx221_3 := hcB HB.out hx221_3
            have HR221_3 := Aside0.mk hi221_3
            have HC221_3 := Aside0.mk hl221_3
            clear hi221_3 hl221_3
            replace p221 := eq_true p221
            replace q221 := eq_true q221
            have ea_ := Option.some.inj (hx219_3.symm.trans hx221_3)
            injection ea_ with ea_ en_ ec_
            subst ea_
            subst ec_
            clear en_
            have p222 : 0 ≤ (0 : Int) := (by omega)
            have q222 : 0 < (((rd_T33 l0_3 x3_2).f3).length : Int) := dt
            obtain ⟨ad222, A222_3, c222_3, e222, hx222_0, hx222_1, hx222_2, hx222_3, hl222_3, hi222_3⟩ := at_T33 HR221_3.out 0 p222 q222
            cases e222
            have qi222 : (0 < ((rd_T33 l0_3 x3_2).f3).length) = True := eq_true (by omega)
            (try rw [show ((0 : Int)).toNat = 0 from rfl] at hx222_0)
            (try rw [show 0 * 4 = 0 from rfl] at hx222_0)
            (try rw [Addr.add_zero'] at hx222_0)
            (try rw [show ((0 : Int)).toNat = 0 from rfl] at hx222_1)
            (try rw [show 0 * 4 = 0 from rfl] at hx222_1)
            (try rw [Addr.add_zero'] at hx222_1)
            (try rw [show ((0 : Int)).toNat = 0 from rfl] at hx222_2)
            (try rw [show 0 * 4 = 0 from rfl] at hx222_2)
            (try rw [Addr.add_zero'] at hx222_2)
            (try rw [show ((0 : Int)).toNat = 0 from rfl] at hx222_3)
            (try rw [show 0 * 4 = 0 from rfl] at hx222_3)
            (try rw [Addr.add_zero'] at hx222_3)
            replace hx222_0 := hcB HB.out hx222_0
            replace hx222_1 := hcB HB.out hx222_1
            replace hx222_2 := hcB HB.out hx222_2
            replace hx222_3 := hcB HB.out hx222_3
            have HR222_3 := Aside0.mk hi222_3
            have HC222_3 := Aside0.mk hl222_3
            clear hi222_3 hl222_3
            replace p222 := eq_true p222
            replace q222 := eq_true q222
            go_wp2
            go_ret
            exact ⟨re, bl⟩
          ·rw [if_neg c24] at H
           exact absurd H (by simp)
        ·obtain rfl := Option.some.inj H
         obtain ⟨hcz28_0, hcz28_1, hcz28_2, hcz28_3, hfz28_0, hfz28_1, hfz28_2, hfz28_3⟩ := cz4f BK214.out
         have p219 : 0 ≤ (x3_2 : Int) := dt
         have q219 : x3_2 < (l0_3.length : Int) := dt
         obtain ⟨ad219, A219_3, c219_3, e219, hx219_0, hx219_1, hx219_2, hx219_3, hl219_3, hi219_3⟩ := at_T33 HR0_3.out x3_2 p219 q219
         cases e219
         replace hx219_0 := hcB HB.out hx219_0
         replace hx219_1 := hcB HB.out hx219_1
         replace hx219_2 := hcB HB.out hx219_2
         replace hx219_3 := hcB HB.out hx219_3
         have HR219_3 := Aside0.mk hi219_3
         have HC219_3 := Aside0.mk hl219_3
         clear hi219_3 hl219_3
         replace p219 := eq_true p219
         replace q219 := eq_true q219
         go_wp2
         go_ret
         exact ⟨re, bl⟩
       ·rw [if_neg c20] at H
        exact absurd H (by simp)
      ·by_cases c29 : 3 < (l0_3.length : Int)
       ·rw [if_pos c29] at H
        have c29b0 := decide_eq_true c29
        have c29b1 : decide (3 < l0_3.length) = true := decide_eq_true (by omega)
        clear c29
        obtain ⟨⟨t224, t225, t226, t227, t228, t229⟩, A30, H⟩ := oB H
        try dsimp only at H
        obtain rfl := Option.some.inj H
        obtain ⟨hcz31_0, hcz31_1, hcz31_2, hcz31_3, hfz31_0, hfz31_1, hfz31_2, hfz31_3⟩ := cz4f BK214.out
        have p223 : 0 ≤ (3 : Int) := (by omega)
        have q223 : 3 < (l0_3.length : Int) := dt
        obtain ⟨ad223, A223_3, c223_3, e223, hx223_0, hx223_1, hx223_2, hx223_3, hl223_3, hi223_3⟩ := at_T33 HR0_3.out 3 p223 q223
        cases e223
        (try simp only [show (3 : Int).toNat = 3 from rfl, Nat.reduceMul, Nat.reduceEqDiff, Go.Addr.add, ↓reduceIte] at hx223_0)
        (try simp only [show (3 : Int).toNat = 3 from rfl, Nat.reduceMul, Nat.reduceEqDiff, Go.Addr.add, ↓reduceIte] at hx223_1)
        (try simp only [show (3 : Int).toNat = 3 from rfl, Nat.reduceMul, Nat.reduceEqDiff, Go.Addr.add, ↓reduceIte] at hx223_2)
        (try simp only [show (3 : Int).toNat = 3 from rfl, Nat.reduceMul, Nat.reduceEqDiff, Go.Addr.add, ↓reduceIte] at hx223_3)
        have qi223 : (3 < l0_3.length) = True := eq_true (by omega)
        (try rw [show ((3 : Int)).toNat = 3 from rfl] at hx223_0)
        (try rw [show 3 * 4 = 12 from rfl] at hx223_0)
        (try rw [show ((3 : Int)).toNat = 3 from rfl] at hx223_1)
        (try rw [show 3 * 4 = 12 from rfl] at hx223_1)
        (try rw [show ((3 : Int)).toNat = 3 from rfl] at hx223_2)
        (try rw [show 3 * 4 = 12 from rfl] at hx223_2)
        (try rw [show ((3 : Int)).toNat = 3 from rfl] at hx223_3)
        (try rw [show 3 * 4 = 12 from rfl] at hx223_3)
        replace hx223_0 := hcB HB.out hx223_0
        replace hx223_1 := hcB HB.out hx223_1
        replace hx223_2 := hcB HB.out hx223_2
        replace hx223_3 := hcB HB.out hx223_3
        have HR223_3 := Aside0.mk hi223_3
        have HC223_3 := Aside0.mk hl223_3
        clear hi223_3 hl223_3
        replace p223 := eq_true p223
        replace q223 := eq_true q223
        go_wp2_with (first | (refine gF 43 89 Tryd.func43 #[.agg #[.int .i64 ((rd_T33 l0_3 3).f0), .string ((rd_T33 l0_3 3).f1), .int .i64 ((rd_T33 l0_3 3).f2), .slice A223_3 ((rd_T33 l0_3 3).f3).length c223_3]] rfl rfl ?_; (with_reducible refine (incunableref25_shape.calls k2 ((rd_T33 l0_3 3).f0) ((rd_T33 l0_3 3).f1) ((rd_T33 l0_3 3).f2) _ _ ((rd_T33 l0_3 3).f3) t224 t225 t226 t227 t228 t229 _ ?side1 ?side2 A30.out).mono ?_); (case side1 => exact cU (Kd.C_below HR223_3.out HB.out)); (case side2 => exact HC223_3.out); rintro e w32 ⟨rfl, hb⟩; refine ⟨_, rfl, ?_⟩; have n_ := aC (blk_below (bU BK214.out) hb) (aE (bs hb)); clear BK214 HB; obtain ⟨BK214, HB⟩ := n_) | ((with_reducible refine gd 4 rfl ?_); (try (refine gate_guard (by rfl) ?_; dsimp only)); refine bx 4 #[.int .i64 0, .int .i64 0, .int .i64 0, .int .i64 0] 39 rfl rfl ?_; intro gb230 hg w33 hbox hb; have n_ := aC (blk_below (bU BK214.out) hb) (aC (bs hb) (aC hbox (aC (gz hg) (aC (gz hg) (aC (gn hg (bU BK214.out)) (aE (gm hg (bU BK214.out)))))))); clear BK214 HB; obtain ⟨BK214, HB, BK230, GW230, GE230, NB214_230, NB230_214⟩ := n_; clear hb hbox hg; have hnb34 := NB230_214.out; have hnc34 := NB214_230.out; obtain ⟨hcz35_0, hcz35_1, hcz35_2, hcz35_3, hfz35_0, hfz35_1, hfz35_2, hfz35_3⟩ := cz4f BK230.out))
        go_ret
        exact ⟨re, bl⟩
       ·rw [if_neg c29] at H
        exact absurd H (by simp)
end Go.Proofs.YtacdchogjpeffaaDoor.PNoteHits
