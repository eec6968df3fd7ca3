-- printed (wip/tools/myprint.py)
import Derived.Test.YtacdchogjpeffaaDoorPNoteHitsx0
namespace Go.Proofs.YtacdchogjpeffaaDoor.PNoteHits
open Go.RowKit Go.Proofs.YtacdchogjpeffaaDoorW.PrintWords Go.Proofs.YtacdchogjpeffaaDoorW.PrintLast Go.Proofs.YtacdchogjpeffaaDoorW.PrintMore
attribute [local go_sem] max2_int min2_int max_two min_two max_three min_three max_four min_four
set_option linter.unusedVariables false
set_option linter.unusedSimpArgs false
mutual
def note_isShape.j0 : Nat → Bool → Int → ByteArray → Int → List (S33) → Option (Bool)
 | 0, _, _, _, _, _ => none
 | k + 1, x39, x123000, x123001, x123002, x123003 => if x39 = true then (some false) else (if 1 ≤ (x123003.length : Int) then ((some (x123003.drop 1 : List (S33))).bind fun y126 => (note_isShape.l0 k y126 (y126.length : Int) 0 x123000 x123001 x123002 x123003)) else (none))
def note_isShape.l0 : Nat → List (S33) → Int → Int → Int → ByteArray → Int → List (S33) → Option (Bool)
 | 0, _, _, _, _, _, _, _ => none
 | k + 1, x42, x43, x44, x123000, x123001, x123002, x123003 => if x44 < x43 then (if 0 ≤ x44 then (if x44 < (x42.length : Int) then (if ((rd_T33 x42 x44).f0) = 2 then (note_isShape.l0 k x42 x43 (wrap64 (x44 + 1)) x123000 x123001 x123002 x123003) else (some false)) else (none)) else (none)) else (if 3 < (x123003.length : Int) then (if 4 < (x123003.length : Int) then (if (mn ((rd_T33 x123003 3).f2) ((rd_T33 x123003 4).f2)) ≥ 1 then (some (decide ((mx ((rd_T33 x123003 3).f2) ((rd_T33 x123003 4).f2)) ≤ 30000))) else (some false)) else (none)) else (none))
end
def note_isShape.f (k : Nat) (a0_0 : Int) (a0_1 : ByteArray) (a0_2 : Int) (l0_3 : List (S33)) : Option (Bool) := if a0_0 = 0 then (if (l0_3.length : Int) = 5 then (if 0 < (l0_3.length : Int) then (if ((rd_T33 l0_3 0).f0) = 1 then (if ((rd_T33 l0_3 0).f1).toList = ([114, 101, 99, 116] : List UInt8) then (note_isShape.j0 k false a0_0 a0_1 a0_2 l0_3) else (note_isShape.j0 k (((rd_T33 l0_3 0).f1).toList != ([111, 118, 97, 108] : List UInt8)) a0_0 a0_1 a0_2 l0_3)) else (note_isShape.j0 k true a0_0 a0_1 a0_2 l0_3)) else (none)) else (note_isShape.j0 k true a0_0 a0_1 a0_2 l0_3)) else (note_isShape.j0 k true a0_0 a0_1 a0_2 l0_3)
theorem note_isShape.mono_l : ∀ k, (∀ y0 y1 y2 y3 y4, LeO (note_isShape.j0 k y0 y1 y2 y3 y4) (note_isShape.j0 (k + 1) y0 y1 y2 y3 y4)) ∧ (∀ y0 y1 y2 y3 y4 y5 y6, LeO (note_isShape.l0 k y0 y1 y2 y3 y4 y5 y6) (note_isShape.l0 (k + 1) y0 y1 y2 y3 y4 y5 y6))
 | 0 => ⟨fun _ _ _ _ _ r h => by simp [note_isShape.j0] at h, fun _ _ _ _ _ _ _ r h => by simp [note_isShape.l0] at h⟩
 | k + 1 => by
  obtain ⟨ih0, ih1⟩ := note_isShape.mono_l k
  refine ⟨?_, ?_⟩
  ·intro y0 y1 y2 y3 y4
   unfold note_isShape.j0
   repeat' first
   | (with_reducible exact ih0 _ _ _ _ _)
   | (with_reducible exact ih1 _ _ _ _ _ _ _)
   | (with_reducible first | exact LeO.refl _ | exact LeO.none _ | refine LeO.ite ?_ ?_ | refine LeO.bind ?_ (fun _ => ?_))
  ·intro y0 y1 y2 y3 y4 y5 y6
   unfold note_isShape.l0
   repeat' first
   | (with_reducible exact ih0 _ _ _ _ _)
   | (with_reducible exact ih1 _ _ _ _ _ _ _)
   | (with_reducible first | exact LeO.refl _ | exact LeO.none _ | refine LeO.ite ?_ ?_ | refine LeO.bind ?_ (fun _ => ?_))
theorem note_isShape.mono : ∀ a0 a1 a2 a3 k, LeO (note_isShape.f k a0 a1 a2 a3) (note_isShape.f (k + 1) a0 a1 a2 a3) := by
 intro a0 a1 a2 a3 k
 obtain ⟨ih0, ih1⟩ := note_isShape.mono_l k
 unfold note_isShape.f
 repeat' first
   | (with_reducible exact ih0 _ _ _ _ _)
   | (with_reducible exact ih1 _ _ _ _ _ _ _)
   | (with_reducible first | exact LeO.refl _ | exact LeO.none _ | refine LeO.ite ?_ ?_ | refine LeO.bind ?_ (fun _ => ?_))
set_option maxHeartbeats 8000000 in
set_option maxRecDepth 100000 in
theorem note_isShape.calls (k : Nat) (a0_0 : Int) (a0_1 : ByteArray) (a0_2 : Int) (A0_3 : Option Addr) (c0_3 : Nat) (l0_3 : List (S33)) (r : Bool) (w : World) (hr0_3 : Kd.C k33 w A0_3 l0_3.length l0_3) (hc0_3 : l0_3.length ≤ c0_3) (h : note_isShape.f k a0_0 a0_1 a0_2 l0_3 = some r) :
  Calls Tryd.prog 68 #[.agg #[.int .i64 a0_0, .string a0_1, .int .i64 a0_2, .slice A0_3 l0_3.length c0_3]] w fun e w' => e = .returned (.bool r) ∧ Below w.heap.size w w' := by
 have hu33 := Tryd.underlying33
 have HR0_3 := Aside0.mk hr0_3
 have HC0_3 := Aside0.mk hc0_3
 clear hr0_3 hc0_3
 have HB := Aside0.mk (Below.refl w.heap.size w)
 have H := h
 unfold note_isShape.f at H
 clear h
 have HC2 := Aside0.mk H
 clear H
 go_enter Tryd.func68, Tryd.ntmps68
 go_upto_region 1 with (first | ((with_reducible refine gd 1 rfl ?_); (try (refine gate_guard (by rfl) ?_; dsimp only)); refine bx 1 #[.int .i64 a0_0, .string a0_1, .int .i64 a0_2, .slice A0_3 l0_3.length c0_3] 33 rfl rfl ?_; intro gb122 hg w3 hbox hb; have n_ := aC (bs hb) (aC hbox (aC (gz hg) (aE (gz hg)))); clear HB; obtain ⟨HB, BK122, GW122, GE122⟩ := n_; clear hb hbox hg))
 (try simp only [Act.put, List.setIfInBounds_toArray, List.set_cons_zero, List.set_cons_succ])
 go_cut [39] (fun v39 wc => ∃ (kq : Nat) (x39_1 : Bool), v39 = .bool x39_1 ∧ Aside0 (note_isShape.j0 kq x39_1 a0_0 a0_1 a0_2 l0_3 = some r) ∧ Aside0 (kq ≤ k) ∧ Aside0 (wc.heap[gb122]? = some (.cells #[.int .i64 a0_0, .string a0_1, .int .i64 a0_2, (.slice A0_3 l0_3.length c0_3)] 33 (0, 0))) ∧ Aside0 (Below w.heap.size w wc))
 case first =>
  have H := HC2.out
  clear HC2
  rcases iE H with H1 | H1 <;> clear H <;> obtain ⟨H, c4b0, c4b1, c4⟩ := H1
  ·(first | rw [c4b0] | (simp only [i64_w, i32_w]; rw [c4b0]) | skip)
   rcases iE H with H1 | H1 <;> clear H <;> obtain ⟨H, c5b0, c5b1, c5⟩ := H1
   ·by_cases c6 : 0 < (l0_3.length : Int)
    ·rw [if_pos c6] at H
     have c6b0 := decide_eq_true c6
     have c6b1 : decide (0 < l0_3.length) = true := decide_eq_true (by omega)
     clear c6
     rcases iE H with H1 | H1 <;> clear H <;> obtain ⟨H, c7b0, c7b1, c7⟩ := H1
     ·rcases iE H with H1 | H1 <;> clear H <;> obtain ⟨H, c8b0, c8b1, c8⟩ := H1
      ·have H' := Aside0.mk H
       clear H
       obtain ⟨hcz9_0, hcz9_1, hcz9_2, hcz9_3, hfz9_0, hfz9_1, hfz9_2, hfz9_3⟩ := cz4f BK122.out
       have p123 : 0 ≤ (0 : Int) := (by omega)
       have q123 : 0 < (l0_3.length : Int) := dt
       obtain ⟨ad123, A123_3, c123_3, e123, hx123_0, hx123_1, hx123_2, hx123_3, hl123_3, hi123_3⟩ := at_T33 HR0_3.out 0 p123 q123
       cases e123
       have qi123 : (0 < l0_3.length) = True := eq_true (by omega)
       (try rw [show ((0 : Int)).toNat = 0 from rfl] at hx123_0)
       (try rw [show 0 * 4 = 0 from rfl] at hx123_0)
       (try rw [Addr.add_zero'] at hx123_0)
       (try rw [show ((0 : Int)).toNat = 0 from rfl] at hx123_1)
       (try rw [show 0 * 4 = 0 from rfl] at hx123_1)
       (try rw [Addr.add_zero'] at hx123_1)
       (try rw [show ((0 : Int)).toNat = 0 from rfl] at hx123_2)
       (try rw [show 0 * 4 = 0 from rfl] at hx123_2)
       (try rw [Addr.add_zero'] at hx123_2)
       (try rw [show ((0 : Int)).toNat = 0 from rfl] at hx123_3)
       (try rw [show 0 * 4 = 0 from rfl] at hx123_3)
       (try rw [Addr.add_zero'] at hx123_3)
       replace hx123_0 := hcB HB.out hx123_0
       replace hx123_1 := hcB HB.out hx123_1
       replace hx123_2 := hcB HB.out hx123_2
       replace hx123_3 := hcB HB.out hx123_3
       have HR123_3 := Aside0.mk hi123_3
       have HC123_3 := Aside0.mk hl123_3
       clear hi123_3 hl123_3
       replace p123 := eq_true p123
       replace q123 := eq_true q123
       have p124 : 0 ≤ (0 : Int) := (by omega)
       have q124 : 0 < (l0_3.length : Int) := dt
       obtain ⟨ad124, A124_3, c124_3, e124, hx124_0, hx124_1, hx124_2, hx124_3, hl124_3, hi124_3⟩ := at_T33 HR0_3.out 0 p124 q124
       obtain rfl : ad123 = ad124 := (by injection e124)
       have qi124 : (0 < l0_3.length) = True := eq_true (by omega)
       (try rw [show ((0 : Int)).toNat = 0 from rfl] at hx124_0)
       (try rw [show 0 * 4 = 0 from rfl] at hx124_0)
       (try rw [Addr.add_zero'] at hx124_0)
       (try rw [show ((0 : Int)).toNat = 0 from rfl] at hx124_1)
       (try rw [show 0 * 4 = 0 from rfl] at hx124_1)
       (try rw [Addr.add_zero'] at hx124_1)
       (try rw [show ((0 : Int)).toNat = 0 from rfl] at hx124_2)
       (try rw [show 0 * 4 = 0 from rfl] at hx124_2)
       (try rw [Addr.add_zero'] at hx124_2)
       (try rw [show ((0 : Int)).toNat = 0 from rfl] at hx124_3)
       (try rw [show 0 * 4 = 0 from rfl] at hx124_3)
       (try rw [Addr.add_zero'] at hx124_3)
       replace hx124_0 := hcB HB.out hx124_0
       replace hx124_1 := hcB HB.out hx124_1
       replace hx124_2 := hcB HB.out hx124_2
       replace hx124_3 := hcB HB.out hx124_3
       have HR124_3 := Aside0.mk hi124_3
       have HC124_3 := Aside0.mk hl124_3
       clear hi124_3 hl124_3
       replace p124 := eq_true p124
       replace q124 := eq_true q124
       have ea_ := Option.some.inj (hx123_3.symm.trans hx124_3)
       injection ea_ with ea_ en_ ec_
       subst ea_
       subst ec_
       clear en_
       go_wp2
       go_meet
       case rel => exact ⟨_, (false), rq, H', ⟨by first | omega | exact Nat.le_refl _⟩, ⟨bU BK122.out⟩, ⟨bl⟩⟩
      ·have H' := Aside0.mk H
       clear H
       obtain ⟨hcz10_0, hcz10_1, hcz10_2, hcz10_3, hfz10_0, hfz10_1, hfz10_2, hfz10_3⟩ := cz4f BK122.out
       have p123 : 0 ≤ (0 : Int) := (by omega)
       have q123 : 0 < (l0_3.length : Int) := dt
       obtain ⟨ad123, A123_3, c123_3, e123, hx123_0, hx123_1, hx123_2, hx123_3, hl123_3, hi123_3⟩ := at_T33 HR0_3.out 0 p123 q123
       cases e123
       have qi123 : (0 < l0_3.length) = True := eq_true (by omega)
       (try rw [show ((0 : Int)).toNat = 0 from rfl] at hx123_0)
       (try rw [show 0 * 4 = 0 from rfl] at hx123_0)
       (try rw [Addr.add_zero'] at hx123_0)
       (try rw [show ((0 : Int)).toNat = 0 from rfl] at hx123_1)
       (try rw [show 0 * 4 = 0 from rfl] at hx123_1)
       (try rw [Addr.add_zero'] at hx123_1)
       (try rw [show ((0 : Int)).toNat = 0 from rfl] at hx123_2)
       (try rw [show 0 * 4 = 0 from rfl] at hx123_2)
       (try rw [Addr.add_zero'] at hx123_2)
       (try rw [show ((0 : Int)).toNat = 0 from rfl] at hx123_3)
       (try rw [show 0 * 4 = 0 from rfl] at hx123_3)
       (try rw [Addr.add_zero'] at hx123_3)
       replace hx123_0 := hcB HB.out hx123_0
       replace hx123_1 := hcB HB.out hx123_1
       replace hx123_2 := hcB HB.out hx123_2
       replace hx123_3 := hcB HB.out hx123_3
       have HR123_3 := Aside0.mk hi123_3
       have HC123_3 := Aside0.mk hl123_3
       clear hi123_3 hl123_3
       replace p123 := eq_true p123
       replace q123 := eq_true q123
       have p124 : 0 ≤ (0 : Int) := (by omega)
       have q124 : 0 < (l0_3.length : Int) := dt
       obtain ⟨ad124, A124_3, c124_3, e124, hx124_0, hx124_1, hx124_2, hx124_3, hl124_3, hi124_3⟩ := at_T33 HR0_3.out 0 p124 q124
       obtain rfl : ad123 = ad124 := (by injection e124)
       have qi124 : (0 < l0_3.length) = True := eq_true (by omega)
       (try rw [show ((0 : Int)).toNat = 0 from rfl] at hx124_0)
       (try rw [show 0 * 4 = 0 from rfl] at hx124_0)
       (try rw [Addr.add_zero'] at hx124_0)
       (try rw [show ((0 : Int)).toNat = 0 from rfl] at hx124_1)
       (try rw [show 0 * 4 = 0 from rfl] at hx124_1)
       (try rw [Addr.add_zero'] at hx124_1)
       (try rw [show ((0 : Int)).toNat = 0 from rfl] at hx124_2)
       (try rw [show 0 * 4 = 0 from rfl] at hx124_2)
       (try rw [Addr.add_zero'] at hx124_2)
       (try rw [show ((0 : Int)).toNat = 0 from rfl] at hx124_3)
       (try rw [show 0 * 4 = 0 from rfl] at hx124_3)
       (try rw [Addr.add_zero'] at hx124_3)
       replace hx124_0 := hcB HB.out hx124_0
       replace hx124_1 := hcB HB.out hx124_1
       replace hx124_2 := hcB HB.out hx124_2
       replace hx124_3 := hcB HB.out hx124_3
       have HR124_3 := Aside0.mk hi124_3
       have HC124_3 := Aside0.mk hl124_3
       clear hi124_3 hl124_3
       replace p124 := eq_true p124
       replace q124 := eq_true q124
       have ea_ := Option.some.inj (hx123_3.symm.trans hx124_3)
       injection ea_ with ea_ en_ ec_
       subst ea_
       subst ec_
       clear en_
       have p125 : 0 ≤ (0 : Int) := (by omega)
       have q125 : 0 < (l0_3.length : Int) := dt
       obtain ⟨ad125, A125_3, c125_3, e125, hx125_0, hx125_1, hx125_2, hx125_3, hl125_3, hi125_3⟩ := at_T33 HR0_3.out 0 p125 q125
       obtain rfl : ad123 = ad125 := (by injection e125)
       have qi125 : (0 < l0_3.length) = True := eq_true (by omega)
       (try rw [show ((0 : Int)).toNat = 0 from rfl] at hx125_0)
       (try rw [show 0 * 4 = 0 from rfl] at hx125_0)
       (try rw [Addr.add_zero'] at hx125_0)
       (try rw [show ((0 : Int)).toNat = 0 from rfl] at hx125_1)
       (try rw [show 0 * 4 = 0 from rfl] at hx125_1)
       (try rw [Addr.add_zero'] at hx125_1)
       (try rw [show ((0 : Int)).toNat = 0 from rfl] at hx125_2)
       (try rw [show 0 * 4 = 0 from rfl] at hx125_2)
       (try rw [Addr.add_zero'] at hx125_2)
       (try rw [show ((0 : Int)).toNat = 0 from rfl] at hx125_3)
       (try rw [show 0 * 4 = 0 from rfl] at hx125_3)
       (try rw [Addr.add_zero'] at hx125_3)
       replace hx125_0 := hcB HB.out hx125_0
       replace hx125_1 := hcB HB.out hx125_1
       replace hx125_2 := hcB HB.out hx125_2
       replace hx125_3 := hcB HB.out hx125_3
       have HR125_3 := Aside0.mk hi125_3
       have HC125_3 := Aside0.mk hl125_3
       clear hi125_3 hl125_3
       replace p125 := eq_true p125
       replace q125 := eq_true q125
       have ea_ := Option.some.inj (hx123_3.symm.trans hx125_3)
       injection ea_ with ea_ en_ ec_
       subst ea_
       subst ec_
       clear en_
       go_wp2
       go_meet
       case rel => exact ⟨_, ((((rd_T33 l0_3 0).f1).toList != ([111, 118, 97, 108] : List UInt8))), rq, H', ⟨by first | omega | exact Nat.le_refl _⟩, ⟨bU BK122.out⟩, ⟨bl⟩⟩
     ·have H' := Aside0.mk H
      clear H
      obtain ⟨hcz11_0, hcz11_1, hcz11_2, hcz11_3, hfz11_0, hfz11_1, hfz11_2, hfz11_3⟩ := cz4f BK122.out
      have p123 : 0 ≤ (0 : Int) := (by omega)
      have q123 : 0 < (l0_3.length : Int) := dt
      obtain ⟨ad123, A123_3, c123_3, e123, hx123_0, hx123_1, hx123_2, hx123_3, hl123_3, hi123_3⟩ := at_T33 HR0_3.out 0 p123 q123
      cases e123
      have qi123 : (0 < l0_3.length) = True := eq_true (by omega)
      (try rw [show ((0 : Int)).toNat = 0 from rfl] at hx123_0)
      (try rw [show 0 * 4 = 0 from rfl] at hx123_0)
      (try rw [Addr.add_zero'] at hx123_0)
      (try rw [show ((0 : Int)).toNat = 0 from rfl] at hx123_1)
      (try rw [show 0 * 4 = 0 from rfl] at hx123_1)
      (try rw [Addr.add_zero'] at hx123_1)
      (try rw [show ((0 : Int)).toNat = 0 from rfl] at hx123_2)
      (try rw [show 0 * 4 = 0 from rfl] at hx123_2)
      (try rw [Addr.add_zero'] at hx123_2)
      (try rw [show ((0 : Int)).toNat = 0 from rfl] at hx123_3)
      (try rw [show 0 * 4 = 0 from rfl] at hx123_3)
      (try rw [Addr.add_zero'] at hx123_3)
      replace hx123_0 := hcB HB.out hx123_0
      replace hx123_1 := hcB HB.out hx123_1
      replace hx123_2 := hcB HB.out hx123_2
      replace hx123_3 := hcB HB.out hx123_3
      have HR123_3 := Aside0.mk hi123_3
      have HC123_3 := Aside0.mk hl123_3
      clear hi123_3 hl123_3
      replace p123 := eq_true p123
      replace q123 := eq_true q123
      go_wp2
      go_meet
      case rel => exact ⟨_, (true), rq, H', ⟨by first | omega | exact Nat.le_refl _⟩, ⟨bU BK122.out⟩, ⟨bl⟩⟩
    ·rw [if_neg c6] at H
     exact absurd H (by simp)
   ·have H' := Aside0.mk H
    clear H
    obtain ⟨hcz12_0, hcz12_1, hcz12_2, hcz12_3, hfz12_0, hfz12_1, hfz12_2, hfz12_3⟩ := cz4f BK122.out
    go_wp2
    go_meet
    case rel => exact ⟨_, (true), rq, H', ⟨by first | omega | exact Nat.le_refl _⟩, ⟨bU BK122.out⟩, ⟨bl⟩⟩
  ·(first | rw [c4b0] | (simp only [i64_w, i32_w]; rw [c4b0]) | skip)
   have H' := Aside0.mk H
   clear H
   obtain ⟨hcz13_0, hcz13_1, hcz13_2, hcz13_3, hfz13_0, hfz13_1, hfz13_2, hfz13_3⟩ := cz4f BK122.out
   go_wp2
   go_meet
   case rel => exact ⟨_, (true), rq, H', ⟨by first | omega | exact Nat.le_refl _⟩, ⟨bU BK122.out⟩, ⟨bl⟩⟩
 case rest =>
  clear HC2
  obtain ⟨kq, x39_1, rfl, HA, HJ1, BK122, HB⟩ := hcut
  cases kq with
  | zero => exact absurd HA.out (by simp [note_isShape.j0])
  | succ kj1 =>
   have H := HA.out
   clear HA
   simp only [note_isShape.j0] at H
   by_cases c14 : x39_1 = true
   ·subst c14
    rw [if_pos rfl] at H
    obtain rfl := Option.some.inj H
    go_wp2
    go_ret
    exact ⟨re, bl⟩
   ·replace c14 := Bool.eq_false_iff.mpr c14
    subst c14
    rw [if_neg Bool.false_ne_true] at H
    by_cases c15 : 1 ≤ (l0_3.length : Int)
    ·rw [if_pos c15] at H
     have c15b0 := eq_true c15
     have c15b1 := decide_eq_true c15
     clear c15
     obtain ⟨y126, hy_⟩ : ∃ y_ : List (S33), y_ = (l0_3.drop 1) := ⟨_, rfl⟩
     replace H : (note_isShape.l0 kj1 y126 (y126.length : Int) 0 a0_0 a0_1 a0_2 l0_3) = some r := rh
     have Ny126 := aE hy_
     clear hy_
     have H' := Aside0.mk H
     clear H
     obtain ⟨hcz16_0, hcz16_1, hcz16_2, hcz16_3, hfz16_0, hfz16_1, hfz16_2, hfz16_3⟩ := cz4f BK122.out
     have q17 : (1 : Int) ≤ ((l0_3.length : Int) : Int) := dt
     obtain ⟨i017, hi017, _, hsz17, _⟩ := info_parts info33
     have hroom17 : l0_3.length ≤ c0_3 := HC0_3.out
     have hC17 : Kd.C k33 _ A0_3 l0_3.length l0_3 := HR0_3.out
     have hcut17 := cut_from (P := Tryd.prog) 31 33 .i64 Tryd.underlying31 hi017 4 hsz17 A0_3 l0_3.length c0_3 1 (by omega) q17
     have hr17 := Kd.C_drop (m := (1 : Int).toNat) (c := c0_3) hC17 (by omega) hroom17
     obtain ⟨A17, hA17⟩ : ∃ A1, A1 = (if c0_3 = (1 : Int).toNat then A0_3 else (A0_3 : Option Addr).map (·.add ((1 : Int).toNat * 4))) := ⟨_, rfl⟩
     obtain ⟨c17, hc17⟩ : ∃ c1, c1 = c0_3 - (1 : Int).toNat := ⟨_, rfl⟩
     have hy17 : y126.length = l0_3.length - (1 : Int).toNat := (by rw [Ny126.out, List.length_drop] <;> omega)
     rw [show (l0_3).drop (1 : Int).toNat = y126 from Ny126.out.symm] at hr17
     replace hr17 : Kd.C k33 _ A17 y126.length y126 := (by rw [hA17]; exact hr17)
     rw [← hy17, ← hA17, ← hc17] at hcut17
     have HR129 := Aside0.mk hr17
     have HC129 := Aside0.mk (show y126.length ≤ c17 from by rw [hy17, hc17]; exact Nat.sub_le_sub_right hroom17 _)
     clear hr17 hC17 hroom17 hi017 hsz17 hc17
     have KY17 := Aside0.mk hy17
     have KA17 := Aside0.mk hA17
     clear hy17 hA17
     replace q17 := eq_true q17
     go_wp2
     go_loopg [44] kj1 (fun kq v44 w' => ∃ (x44_2 : Int), v44 = .int .i64 x44_2 ∧ Aside0 (note_isShape.l0 kq y126 (y126.length : Int) x44_2 a0_0 a0_1 a0_2 l0_3 = some r) ∧ Aside0 (kq ≤ kj1) ∧ Aside0 (w'.heap[gb122]? = some (.cells #[.int .i64 a0_0, .string a0_1, .int .i64 a0_2, (.slice A0_3 l0_3.length c0_3)] 33 (0, 0))) ∧ Aside0 (Below w.heap.size w w'))
     case atStart => exact ⟨(0), rq, H', ⟨Nat.le_refl _⟩, ⟨bU BK122.out⟩, ⟨bl⟩⟩
     case round =>
      clear H'
      obtain ⟨x44_2, rfl, HA, HK2, BK122, HB⟩ := hrel
      cases gk with
      | zero => exact absurd HA.out (by simp [note_isShape.l0])
      | succ k2 =>
       have H := HA.out
       clear HA
       simp only [note_isShape.l0] at H
       rcases iL H with H1 | H1 <;> clear H <;> obtain ⟨H, c18b0⟩ := H1
       ·by_cases c19 : 0 ≤ x44_2
        ·rw [if_pos c19] at H
         have c19b0 := decide_eq_true c19
         clear c19
         by_cases c20 : x44_2 < (y126.length : Int)
         ·rw [if_pos c20] at H
          have c20b0 := decide_eq_true c20
          clear c20
          rcases iE H with H1 | H1 <;> clear H <;> obtain ⟨H, c21b0, c21b1, c21⟩ := H1
          ·have H' := Aside0.mk H
           clear H
           have p130 : 0 ≤ (x44_2 : Int) := dt
           have q130 : x44_2 < (y126.length : Int) := dt
           obtain ⟨ad130, A130_3, c130_3, e130, hx130_0, hx130_1, hx130_2, hx130_3, hl130_3, hi130_3⟩ := at_T33 HR129.out x44_2 p130 q130
           cases e130
           replace hx130_0 := hcB HB.out hx130_0
           replace hx130_1 := hcB HB.out hx130_1
           replace hx130_2 := hcB HB.out hx130_2
           replace hx130_3 := hcB HB.out hx130_3
           have HR130_3 := Aside0.mk hi130_3
           have HC130_3 := Aside0.mk hl130_3
           clear hi130_3 hl130_3
           replace p130 := eq_true p130
           replace q130 := eq_true q130
           go_wp2_with (first | ((with_reducible refine gd 4 rfl ?_); (try (refine gate_guard (by rfl) ?_; dsimp only)); refine bx 4 #[.int .i64 0, .string (⟨#[]⟩ : ByteArray), .int .i64 0, .slice none 0 0] 33 rfl rfl ?_; intro gb131 hg w22 hbox hb; have n_ := aC (blk_below (bU BK122.out) hb) (aC (bs hb) (aC hbox (aC (gz hg) (aC (gz hg) (aC (gn hg (bU BK122.out)) (aE (gm hg (bU BK122.out)))))))); clear BK122 HB; obtain ⟨BK122, HB, BK131, GW131, GE131, NB122_131, NB131_122⟩ := n_; clear hb hbox hg; have hnb23 := NB131_122.out; have hnc23 := NB122_131.out; obtain ⟨hcz24_0, hcz24_1, hcz24_2, hcz24_3, hfz24_0, hfz24_1, hfz24_2, hfz24_3⟩ := cz4f BK131.out))
           go_roundg k2
           case measure => have := HJ1.out; have := HK2.out; omega
           case rel => exact ⟨(wrap64 (x44_2 + 1)), rq, H', ⟨by have := HJ1.out; have := HK2.out; omega⟩, ⟨by (with_reducible repeat (first | refine blk_drewN ?_ _ | refine blk_drew ?_ | refine blk_alloc ?_ _)); refine blk_far ?_ NB122_131.out _; (with_reducible repeat (first | refine blk_drewN ?_ _ | refine blk_drew ?_ | refine blk_alloc ?_ _)); refine blk_far ?_ NB122_131.out _; (with_reducible repeat (first | refine blk_drewN ?_ _ | refine blk_drew ?_ | refine blk_alloc ?_ _)); refine blk_far ?_ NB122_131.out _; (with_reducible repeat (first | refine blk_drewN ?_ _ | refine blk_drew ?_ | refine blk_alloc ?_ _)); refine blk_far ?_ NB122_131.out _; (with_reducible repeat (first | refine blk_drewN ?_ _ | refine blk_drew ?_ | refine blk_alloc ?_ _)); exact BK122.out⟩, ⟨bl⟩⟩
          ·obtain rfl := Option.some.inj H
           have p130 : 0 ≤ (x44_2 : Int) := dt
           have q130 : x44_2 < (y126.length : Int) := dt
           obtain ⟨ad130, A130_3, c130_3, e130, hx130_0, hx130_1, hx130_2, hx130_3, hl130_3, hi130_3⟩ := at_T33 HR129.out x44_2 p130 q130
           cases e130
           replace hx130_0 := hcB HB.out hx130_0
           replace hx130_1 := hcB HB.out hx130_1
           replace hx130_2 := hcB HB.out hx130_2
           replace hx130_3 := hcB HB.out hx130_3
           have HR130_3 := Aside0.mk hi130_3
           have HC130_3 := Aside0.mk hl130_3
           clear hi130_3 hl130_3
           replace p130 := eq_true p130
           replace q130 := eq_true q130
           go_wp2_with (first | ((with_reducible refine gd 4 rfl ?_); (try (refine gate_guard (by rfl) ?_; dsimp only)); refine bx 4 #[.int .i64 0, .string (⟨#[]⟩ : ByteArray), .int .i64 0, .slice none 0 0] 33 rfl rfl ?_; intro gb131 hg w25 hbox hb; have n_ := aC (blk_below (bU BK122.out) hb) (aC (bs hb) (aC hbox (aC (gz hg) (aC (gz hg) (aC (gn hg (bU BK122.out)) (aE (gm hg (bU BK122.out)))))))); clear BK122 HB; obtain ⟨BK122, HB, BK131, GW131, GE131, NB122_131, NB131_122⟩ := n_; clear hb hbox hg; have hnb26 := NB131_122.out; have hnc26 := NB122_131.out; obtain ⟨hcz27_0, hcz27_1, hcz27_2, hcz27_3, hfz27_0, hfz27_1, hfz27_2, hfz27_3⟩ := cz4f BK131.out))
           go_ret
           exact ⟨re, bl⟩
         ·rw [if_neg c20] at H
          exact absurd H (by simp)
        ·rw [if_neg c19] at H
         exact absurd H (by simp)
       ·by_cases c28 : 3 < (l0_3.length : Int)
        ·rw [if_pos c28] at H
         have c28b0 := decide_eq_true c28
         have c28b1 : decide (3 < l0_3.length) = true := decide_eq_true (by omega)
         clear c28
         by_cases c29 : 4 < (l0_3.length : Int)
         ·rw [if_pos c29] at H
          have c29b0 := decide_eq_true c29
          have c29b1 : decide (4 < l0_3.length) = true := decide_eq_true (by omega)
          clear c29
          obtain ⟨ji30, hji30⟩ : ∃ j_ : Int, (mn ((rd_T33 l0_3 3).f2) ((rd_T33 l0_3 4).f2)) = j_ := ⟨_, rfl⟩
          replace H : (if (ji30) ≥ 1 then (some (decide ((mx ((rd_T33 l0_3 3).f2) ((rd_T33 l0_3 4).f2)) ≤ 30000))) else (some false)) = some r := by first | (rw [hji30] at H; exact H) | (simp only [hji30] at H ⊢; exact H)
          have hji30_ : (if ((rd_T33 l0_3 4).f2) < ((rd_T33 l0_3 3).f2) then ((rd_T33 l0_3 4).f2) else ((rd_T33 l0_3 3).f2)) = ji30 := hji30
          rcases iL H with H1 | H1 <;> clear H <;> obtain ⟨H, c31b0⟩ := H1
          ·obtain ⟨ji32, hji32⟩ : ∃ j_ : Int, (mx ((rd_T33 l0_3 3).f2) ((rd_T33 l0_3 4).f2)) = j_ := ⟨_, rfl⟩
           replace H : (some (decide ((ji32) ≤ 30000))) = some r := by first | (rw [hji32] at H; exact H) | (simp only [hji32] at H ⊢; exact H)
           have hji32_ : (if ((rd_T33 l0_3 3).f2) < ((rd_T33 l0_3 4).f2) then ((rd_T33 l0_3 4).f2) else ((rd_T33 l0_3 3).f2)) = ji32 := hji32
           obtain rfl := Option.some.inj H
           obtain ⟨hcz33_0, hcz33_1, hcz33_2, hcz33_3, hfz33_0, hfz33_1, hfz33_2, hfz33_3⟩ := cz4f BK122.out
           have p132 : 0 ≤ (3 : Int) := (by omega)
           have q132 : 3 < (l0_3.length : Int) := dt
           obtain ⟨ad132, A132_3, c132_3, e132, hx132_0, hx132_1, hx132_2, hx132_3, hl132_3, hi132_3⟩ := at_T33 HR0_3.out 3 p132 q132
           cases e132
           (try simp only [show (3 : Int).toNat = 3 from rfl, Nat.reduceMul, Nat.reduceEqDiff, Go.Addr.add, ↓reduceIte] at hx132_0)
           (try simp only [show (3 : Int).toNat = 3 from rfl, Nat.reduceMul, Nat.reduceEqDiff, Go.Addr.add, ↓reduceIte] at hx132_1)
           (try simp only [show (3 : Int).toNat = 3 from rfl, Nat.reduceMul, Nat.reduceEqDiff, Go.Addr.add, ↓reduceIte] at hx132_2)
           (try simp only [show (3 : Int).toNat = 3 from rfl, Nat.reduceMul, Nat.reduceEqDiff, Go.Addr.add, ↓reduceIte] at hx132_3)
           have qi132 : (3 < l0_3.length) = True := eq_true (by omega)
           (try rw [show ((3 : Int)).toNat = 3 from rfl] at hx132_0)
           (try rw [show 3 * 4 = 12 from rfl] at hx132_0)
           (try rw [show ((3 : Int)).toNat = 3 from rfl] at hx132_1)
           (try rw [show 3 * 4 = 12 from rfl] at hx132_1)
           (try rw [show ((3 : Int)).toNat = 3 from rfl] at hx132_2)
           (try rw [show 3 * 4 = 12 from rfl] at hx132_2)
           (try rw [show ((3 : Int)).toNat = 3 from rfl] at hx132_3)
           (try rw [show 3 * 4 = 12 from rfl] at hx132_3)
           replace hx132_0 := hcB HB.out hx132_0
           replace hx132_1 := hcB HB.out hx132_1
           replace hx132_2 := hcB HB.out hx132_2
           replace hx132_3 := hcB HB.out hx132_3
           have HR132_3 := Aside0.mk hi132_3
           have HC132_3 := Aside0.mk hl132_3
           clear hi132_3 hl132_3
           replace p132 := eq_true p132
           replace q132 := eq_true q132
           have p133 : 0 ≤ (4 : Int) := (by omega)
           have q133 : 4 < (l0_3.length : Int) := dt
           obtain ⟨ad133, A133_3, c133_3, e133, hx133_0, hx133_1, hx133_2, hx133_3, hl133_3, hi133_3⟩ := at_T33 HR0_3.out 4 p133 q133
           obtain rfl : ad132 = ad133 := (by injection e133)
           (try simp only [show (4 : Int).toNat = 4 from rfl, Nat.reduceMul, Nat.reduceEqDiff, Go.Addr.add, ↓reduceIte] at hx133_0)
           (try simp only [show (4 : Int).toNat = 4 from rfl, Nat.reduceMul, Nat.reduceEqDiff, Go.Addr.add, ↓reduceIte] at hx133_1)
           (try simp only [show (4 : Int).toNat = 4 from rfl, Nat.reduceMul, Nat.reduceEqDiff, Go.Addr.add, ↓reduceIte] at hx133_2)
           (try simp only [show (4 : Int).toNat = 4 from rfl, Nat.reduceMul, Nat.reduceEqDiff, Go.Addr.add, ↓reduceIte] at hx133_3)
           have qi133 : (4 < l0_3.length) = True := eq_true (by omega)
           (try rw [show ((4 : Int)).toNat = 4 from rfl] at hx133_0)
           (try rw [show 4 * 4 = 16 from rfl] at hx133_0)
           (try rw [show ((4 : Int)).toNat = 4 from rfl] at hx133_1)
           (try rw [show 4 * 4 = 16 from rfl] at hx133_1)
           (try rw [show ((4 : Int)).toNat = 4 from rfl] at hx133_2)
           (try rw [show 4 * 4 = 16 from rfl] at hx133_2)
           (try rw [show ((4 : Int)).toNat = 4 from rfl] at hx133_3)
           (try rw [show 4 * 4 = 16 from rfl] at hx133_3)
           replace hx133_0 := hcB HB.out hx133_0
           replace hx133_1 := hcB HB.out hx133_1
           replace hx133_2 := hcB HB.out hx133_2
           replace hx133_3 := hcB HB.out hx133_3
           have HR133_3 := Aside0.mk hi133_3
           have HC133_3 := Aside0.mk hl133_3
           clear hi133_3 hl133_3
           replace p133 := eq_true p133
           replace q133 := eq_true q133
           go_wp2
           repeat (go_quiet (fail); try go_wp2)
           go_ret
           exact ⟨by first | rfl | (simp [errW_none, errW_some] <;> rfl) | (simp only [← hji30, ← hji32]; first | rfl | (simp [errW_none, errW_some] <;> rfl)) | (simp [*, errW_none, errW_some] <;> rfl), bl⟩
          ·obtain rfl := Option.some.inj H
           obtain ⟨hcz34_0, hcz34_1, hcz34_2, hcz34_3, hfz34_0, hfz34_1, hfz34_2, hfz34_3⟩ := cz4f BK122.out
           have p132 : 0 ≤ (3 : Int) := (by omega)
           have q132 : 3 < (l0_3.length : Int) := dt
           obtain ⟨ad132, A132_3, c132_3, e132, hx132_0, hx132_1, hx132_2, hx132_3, hl132_3, hi132_3⟩ := at_T33 HR0_3.out 3 p132 q132
           cases e132
           (try simp only [show (3 : Int).toNat = 3 from rfl, Nat.reduceMul, Nat.reduceEqDiff, Go.Addr.add, ↓reduceIte] at hx132_0)
           (try simp only [show (3 : Int).toNat = 3 from rfl, Nat.reduceMul, Nat.reduceEqDiff, Go.Addr.add, ↓reduceIte] at hx132_1)
           (try simp only [show (3 : Int).toNat = 3 from rfl, Nat.reduceMul, Nat.reduceEqDiff, Go.Addr.add, ↓reduceIte] at hx132_2)
           (try simp only [show (3 : Int).toNat = 3 from rfl, Nat.reduceMul, Nat.reduceEqDiff, Go.Addr.add, ↓reduceIte] at hx132_3)
           have qi132 : (3 < l0_3.length) = True := eq_true (by omega)
           (try rw [show ((3 : Int)).toNat = 3 from rfl] at hx132_0)
           (try rw [show 3 * 4 = 12 from rfl] at hx132_0)
           (try rw [show ((3 : Int)).toNat = 3 from rfl] at hx132_1)
           (try rw [show 3 * 4 = 12 from rfl] at hx132_1)
           (try rw [show ((3 : Int)).toNat = 3 from rfl] at hx132_2)
           (try rw [show 3 * 4 = 12 from rfl] at hx132_2)
           (try rw [show ((3 : Int)).toNat = 3 from rfl] at hx132_3)
           (try rw [show 3 * 4 = 12 from rfl] at hx132_3)
           replace hx132_0 := hcB HB.out hx132_0
           replace hx132_1 := hcB HB.out hx132_1
           replace hx132_2 := hcB HB.out hx132_2
           replace hx132_3 := hcB HB.out hx132_3
           have HR132_3 := Aside0.mk hi132_3
           have HC132_3 := Aside0.mk hl132_3
           clear hi132_3 hl132_3
           replace p132 := eq_true p132
           replace q132 := eq_true q132
           have p133 : 0 ≤ (4 : Int) := (by omega)
           have q133 : 4 < (l0_3.length : Int) := dt
           obtain ⟨ad133, A133_3, c133_3, e133, hx133_0, hx133_1, hx133_2, hx133_3, hl133_3, hi133_3⟩ := at_T33 HR0_3.out 4 p133 q133
           obtain rfl : ad132 = ad133 := (by injection e133)
           (try simp only [show (4 : Int).toNat = 4 from rfl, Nat.reduceMul, Nat.reduceEqDiff, Go.Addr.add, ↓reduceIte] at hx133_0)
           (try simp only [show (4 : Int).toNat = 4 from rfl, Nat.reduceMul, Nat.reduceEqDiff, Go.Addr.add, ↓reduceIte] at hx133_1)
           (try simp only [show (4 : Int).toNat = 4 from rfl, Nat.reduceMul, Nat.reduceEqDiff, Go.Addr.add, ↓reduceIte] at hx133_2)
           (try simp only [show (4 : Int).toNat = 4 from rfl, Nat.reduceMul, Nat.reduceEqDiff, Go.Addr.add, ↓reduceIte] at hx133_3)
           have qi133 : (4 < l0_3.length) = True := eq_true (by omega)
           (try rw [show ((4 : Int)).toNat = 4 from rfl] at hx133_0)
           (try rw [show 4 * 4 = 16 from rfl] at hx133_0)
           (try rw [show ((4 : Int)).toNat = 4 from rfl] at hx133_1)
           (try rw [show 4 * 4 = 16 from rfl] at hx133_1)
           (try rw [show ((4 : Int)).toNat = 4 from rfl] at hx133_2)
           (try rw [show 4 * 4 = 16 from rfl] at hx133_2)
           (try rw [show ((4 : Int)).toNat = 4 from rfl] at hx133_3)
           (try rw [show 4 * 4 = 16 from rfl] at hx133_3)
           replace hx133_0 := hcB HB.out hx133_0
           replace hx133_1 := hcB HB.out hx133_1
           replace hx133_2 := hcB HB.out hx133_2
           replace hx133_3 := hcB HB.out hx133_3
           have HR133_3 := Aside0.mk hi133_3
           have HC133_3 := Aside0.mk hl133_3
           clear hi133_3 hl133_3
           replace p133 := eq_true p133
           replace q133 := eq_true q133
           go_wp2
           repeat (go_quiet (fail); try go_wp2)
           go_ret
           exact ⟨by first | rfl | (simp [errW_none, errW_some] <;> rfl) | (simp only [← hji30]; first | rfl | (simp [errW_none, errW_some] <;> rfl)) | (simp [*, errW_none, errW_some] <;> rfl), bl⟩
         ·rw [if_neg c29] at H
          exact absurd H (by simp)
        ·rw [if_neg c28] at H
         exact absurd H (by simp)
    ·rw [if_neg c15] at H
     exact absurd H (by simp)
def note_isNote_1.f (a0_0 : Int) (a0_1 : ByteArray) (a0_2 : Int) (l0_3 : List (S33)) : Option (Bool) := if a0_0 = 0 then (if (l0_3.length : Int) = 0 then (some true) else (if 0 < (l0_3.length : Int) then (some (((rd_T33 l0_3 0).f0) != 1)) else (none))) else (some true)
set_option maxHeartbeats 8000000 in
set_option maxRecDepth 100000 in
theorem note_isNote_1.calls (a0_0 : Int) (a0_1 : ByteArray) (a0_2 : Int) (A0_3 : Option Addr) (c0_3 : Nat) (l0_3 : List (S33)) (r : Bool) (w : World) (hr0_3 : Kd.C k33 w A0_3 l0_3.length l0_3) (hc0_3 : l0_3.length ≤ c0_3) (h : note_isNote_1.f a0_0 a0_1 a0_2 l0_3 = some r) :
  Calls Tryd.prog 69 #[.agg #[.int .i64 a0_0, .string a0_1, .int .i64 a0_2, .slice A0_3 l0_3.length c0_3]] w fun e w' => e = .returned (.bool r) ∧ Below w.heap.size w w' := by
 have hu33 := Tryd.underlying33
 have HR0_3 := Aside0.mk hr0_3
 have HC0_3 := Aside0.mk hc0_3
 clear hr0_3 hc0_3
 have HB := Aside0.mk (Below.refl w.heap.size w)
 have H := h
 unfold note_isNote_1.f at H
 clear h
 rcases iE H with H1 | H1 <;> clear H <;> obtain ⟨H, c2b0, c2b1, c2⟩ := H1
 ·rcases iE H with H1 | H1 <;> clear H <;> obtain ⟨H, c3b0, c3b1, c3⟩ := H1
  ·obtain rfl := Option.some.inj H
   go_enter Tryd.func69, Tryd.ntmps69
   go_wp2_with (first | ((with_reducible refine gd 1 rfl ?_); (try (refine gate_guard (by rfl) ?_; dsimp only)); refine bx 1 #[.int .i64 a0_0, .string a0_1, .int .i64 a0_2, .slice A0_3 l0_3.length c0_3] 33 rfl rfl ?_; intro gb134 hg w4 hbox hb; have n_ := aC (bs hb) (aC hbox (aC (gz hg) (aE (gz hg)))); clear HB; obtain ⟨HB, BK134, GW134, GE134⟩ := n_; clear hb hbox hg; obtain ⟨hcz5_0, hcz5_1, hcz5_2, hcz5_3, hfz5_0, hfz5_1, hfz5_2, hfz5_3⟩ := cz4f BK134.out))
   go_ret
   exact ⟨re, bl⟩
  ·have c3b2 : ¬ (l0_3 = []) := fun h_ => c3 (by rw [h_]; rfl)
   by_cases c6 : 0 < (l0_3.length : Int)
   ·rw [if_pos c6] at H
    have c6b0 := decide_eq_true c6
    have c6b1 : decide (0 < l0_3.length) = true := decide_eq_true (by omega)
    clear c6
    obtain rfl := Option.some.inj H
    go_enter Tryd.func69, Tryd.ntmps69
    go_wp2_with (first | ((with_reducible refine gd 1 rfl ?_); (try (refine gate_guard (by rfl) ?_; dsimp only)); refine bx 1 #[.int .i64 a0_0, .string a0_1, .int .i64 a0_2, .slice A0_3 l0_3.length c0_3] 33 rfl rfl ?_; intro gb134 hg w7 hbox hb; have n_ := aC (bs hb) (aC hbox (aC (gz hg) (aE (gz hg)))); clear HB; obtain ⟨HB, BK134, GW134, GE134⟩ := n_; clear hb hbox hg; obtain ⟨hcz8_0, hcz8_1, hcz8_2, hcz8_3, hfz8_0, hfz8_1, hfz8_2, hfz8_3⟩ := cz4f BK134.out; have p135 : 0 ≤ (0 : Int) := (by omega); have q135 : 0 < (l0_3.length : Int) := dt; obtain ⟨ad135, A135_3, c135_3, e135, hx135_0, hx135_1, hx135_2, hx135_3, hl135_3, hi135_3⟩ := at_T33 HR0_3.out 0 p135 q135; cases e135; have qi135 : (0 < l0_3.length) = True := eq_true (by omega); (try rw [show ((0 : Int)).toNat = 0 from rfl] at hx135_0); (try rw [show 0 * 4 = 0 from rfl] at hx135_0); (try rw [Addr.add_zero'] at hx135_0); (try rw [show ((0 : Int)).toNat = 0 from rfl] at hx135_1); (try rw [show 0 * 4 = 0 from rfl] at hx135_1); (try rw [Addr.add_zero'] at hx135_1); (try rw [show ((0 : Int)).toNat = 0 from rfl] at hx135_2); (try rw [show 0 * 4 = 0 from rfl] at hx135_2); (try rw [Addr.add_zero'] at hx135_2); (try rw [show ((0 : Int)).toNat = 0 from rfl] at hx135_3); (try rw [show 0 * 4 = 0 from rfl] at hx135_3); (try rw [Addr.add_zero'] at hx135_3); replace hx135_0 := hcB HB.out hx135_0; replace hx135_1 := hcB HB.out hx135_1; replace hx135_2 := hcB HB.out hx135_2; replace hx135_3 := hcB HB.out hx135_3; have HR135_3 := Aside0.mk hi135_3; have HC135_3 := Aside0.mk hl135_3; clear hi135_3 hl135_3; replace p135 := eq_true p135; replace q135 := eq_true q135))
    go_ret
    exact ⟨re, bl⟩
   ·rw [if_neg c6] at H
    exact absurd H (by simp)
 ·obtain rfl := Option.some.inj H
  go_enter Tryd.func69, Tryd.ntmps69
  go_wp2_with (first | ((with_reducible refine gd 1 rfl ?_); (try (refine gate_guard (by rfl) ?_; dsimp only)); refine bx 1 #[.int .i64 a0_0, .string a0_1, .int .i64 a0_2, .slice A0_3 l0_3.length c0_3] 33 rfl rfl ?_; intro gb134 hg w9 hbox hb; have n_ := aC (bs hb) (aC hbox (aC (gz hg) (aE (gz hg)))); clear HB; obtain ⟨HB, BK134, GW134, GE134⟩ := n_; clear hb hbox hg; obtain ⟨hcz10_0, hcz10_1, hcz10_2, hcz10_3, hfz10_0, hfz10_1, hfz10_2, hfz10_3⟩ := cz4f BK134.out))
  go_ret
  exact ⟨re, bl⟩
end Go.Proofs.YtacdchogjpeffaaDoor.PNoteHits
