-- Written by a program of this session (wip/tools/myprint.py) over the kit's print. Not trusted: Lean checks it.
import Derived.Test.YtaflekobfbgedaaPShapePiecesx0
import Derived.Test.YtaflekobfbgedaaPShapePiecesx4
namespace Go.Proofs.Ytaflekobfbgedaa.PShapePieces
open Go.RowKit Go.Proofs.YtaflekobfbgedaaW.PrintWords Go.Proofs.YtaflekobfbgedaaW.PrintLast Go.Proofs.YtaflekobfbgedaaW.PrintMore
attribute [local go_sem] max2_int min2_int max_two min_two max_three min_three max_four min_four   -- for this text's walks alone
set_option linter.unusedVariables false
set_option linter.unusedSimpArgs false

/-! ### incunableref15_SamePlaced: function 23 -/
def incunableref15_SamePlaced.l0 : Nat → List (S48) → List (S48) → Int → Option (Bool)
 | 0, _, _, _ => none
 | k + 1, x0, x1, x5 => if x5 < (x0.length : Int) then (if 0 ≤ x5 then (if x5 < (x1.length : Int) then (if ((rd_T48 x0 x5).f1) = ((rd_T48 x1 x5).f1) then (if ((rd_T48 x0 x5).f2) = ((rd_T48 x1 x5).f2) then ((incunableref05_Same.f ((rd_T48 x0 x5).f0.f0) ((rd_T48 x0 x5).f0.f1) ((rd_T48 x0 x5).f0.f2) ((rd_T48 x1 x5).f0.f0) ((rd_T48 x1 x5).f0.f1) ((rd_T48 x1 x5).f0.f2)).bind fun t211 => (if t211 = true then (incunableref15_SamePlaced.l0 k x0 x1 (wrap64 (x5 + 1))) else (some false))) else (some false)) else (some false)) else (none)) else (none)) else (some true)
def incunableref15_SamePlaced.f (k : Nat) (l0 : List (S48)) (l1 : List (S48)) : Option (Bool) := if (l0.length : Int) = (l1.length : Int) then (incunableref15_SamePlaced.l0 k l0 l1 0) else (some false)
theorem incunableref15_SamePlaced.mono_l : ∀ k, (∀ y0 y1 y2, LeO (incunableref15_SamePlaced.l0 k y0 y1 y2) (incunableref15_SamePlaced.l0 (k + 1) y0 y1 y2))
 | 0 => fun _ _ _ r h => by simp [incunableref15_SamePlaced.l0] at h
 | k + 1 => by
  have ih0 := incunableref15_SamePlaced.mono_l k
  ·intro y0 y1 y2
   unfold incunableref15_SamePlaced.l0
   repeat' first
   | (with_reducible exact ih0 _ _ _)
   | (with_reducible first | exact LeO.refl _ | exact LeO.none _ | refine LeO.ite ?_ ?_ | refine LeO.bind ?_ (fun _ => ?_))
   | exact ih0 _ _ _
   | exact LeO.none _ | refine LeO.ite ?_ ?_ | refine LeO.bind ?_ (fun _ => ?_)
theorem incunableref15_SamePlaced.mono : ∀ a0 a1 k, LeO (incunableref15_SamePlaced.f k a0 a1) (incunableref15_SamePlaced.f (k + 1) a0 a1) := by
 intro a0 a1 k
 have ih0 := incunableref15_SamePlaced.mono_l k
 unfold incunableref15_SamePlaced.f
 repeat' first
   | (with_reducible exact ih0 _ _ _)
   | (with_reducible first | exact LeO.refl _ | exact LeO.none _ | refine LeO.ite ?_ ?_ | refine LeO.bind ?_ (fun _ => ?_))
   | exact ih0 _ _ _
   | exact LeO.none _ | refine LeO.ite ?_ ?_ | refine LeO.bind ?_ (fun _ => ?_)
def incunableref15_SamePlaced.T6 : Bool × List (List Nat × List Nat) := (true, [([], []), ([], []), ([0, 1], [0, 1]), ([2], [2]), ([3], [3]), ([], []), ([], []), ([5, 6], [5, 6]), ([7], [7]), ([8], [8]), ([4, 9], [4, 9]), ([10], [10]), ([11], [11]), ([11], [11]), ([12, 13, 11], [11, 12, 13]), ([14, 11], [11, 14]), ([15, 11], [11, 15]), ([11], [11]), ([11], [11]), ([17, 18, 11], [11, 17, 18]), ([19, 11], [11, 19]), ([20, 11], [11, 20]), ([16, 21, 11], [11, 16, 21]), ([11, 22], [11, 22]), ([23, 11], [23]), ([24], [24]), ([24], [24]), ([25, 26, 24], [24, 25, 26]), ([27, 24], [24, 27]), ([28, 24], [24, 28]), ([24], [24]), ([24], [24]), ([30, 31, 24], [24, 30, 31]), ([32, 24], [24, 32]), ([33, 24], [24, 33]), ([29, 34, 24, 24], [24, 29, 34]), ([35, 24], [24, 35]), ([24, 36], [24, 36])])
def incunableref15_SamePlaced.B6 : List Nat := [0, 0, 3, 7, 15, 0, 0, 96, 224, 480, 1023, 2047, 4095, 4095, 16383, 32767, 65535, 4095, 4095, 397311, 921599, 1970175, 4194303, 8388607, 16777215, 33554431, 33554431, 134217727, 268435455, 536870911, 33554431, 33554431, 3254779903, 7549747199, 16139681791, 34359738367, 68719476735, 137438953471]
theorem incunableref15_SamePlaced.tab6 : rtab .any (opsOf Try.f23 6) = incunableref15_SamePlaced.T6 := by kernel_rfl
theorem incunableref15_SamePlaced.bits6 : waitsOk incunableref15_SamePlaced.T6.2 incunableref15_SamePlaced.B6 = true := by kernel_rfl
set_option maxHeartbeats 8000000 in
set_option maxRecDepth 100000 in
theorem incunableref15_SamePlaced.calls (k : Nat) (A0 : Option Addr) (c0 : Nat) (l0 : List (S48)) (A1 : Option Addr) (c1 : Nat) (l1 : List (S48)) (r : Bool) (w : World) (hr0 : Kd.C k48 w A0 l0.length l0) (hc0 : l0.length ≤ c0) (hr1 : Kd.C k48 w A1 l1.length l1) (hc1 : l1.length ≤ c1) (h : incunableref15_SamePlaced.f k l0 l1 = some r) :
  Calls Try.prog 23 #[.slice A0 l0.length c0, .slice A1 l1.length c1] w fun e w' => e = .returned (.bool r) ∧ Below w.heap.size w w' := by
 have hu24 := Try.underlying24
 have HR0 := Aside0.mk hr0
 have HC0 := Aside0.mk hc0
 clear hr0 hc0
 have HR1 := Aside0.mk hr1
 have HC1 := Aside0.mk hc1
 clear hr1 hc1
 have HB := Aside0.mk (Below.refl w.heap.size w)
 have H : (if (l0.length : Int) = (l1.length : Int) then (incunableref15_SamePlaced.l0 k l0 l1 0) else (some false)) = some r := h
 clear h
 by_cases c3 : (l0.length : Int) = (l1.length : Int)
 ·rw [if_pos c3] at H
  have c3b0 := beq_iff_eq.mpr c3
  have c3b1 := bne_eq_false_iff_eq.mpr c3
  have c3b2 : (l0.length == l1.length) = true := by first | simpa using c3 | (simp at c3 ⊢; omega)
  clear c3
  have H' := Aside0.mk H
  clear H
  go_enter Try.func23, Try.ntmps23
  go_wp2
  go_loopg [5] k (fun kq v5 w' => ∃ (x5_1 : Int), v5 = .int .i64 x5_1 ∧ Aside0 (incunableref15_SamePlaced.l0 kq l0 l1 x5_1 = some r) ∧ Aside0 (kq ≤ k) ∧ Aside0 (Below w.heap.size w w'))
  case atStart => exact ⟨(0), rq, H', ⟨Nat.le_refl _⟩, ⟨bl⟩⟩
  case round =>
   clear H'
   try clear c1
   obtain ⟨x5_1, rfl, HA, HK1, HB⟩ := hrel
   cases gk with
   | zero => exact absurd HA.out (by simp [incunableref15_SamePlaced.l0])
   | succ k1 =>
    have H := HA.out
    clear HA
    simp only [incunableref15_SamePlaced.l0] at H
    by_cases c4 : x5_1 < (l0.length : Int)
    ·rw [if_pos c4] at H
     have c4b0 := decide_eq_true c4
     clear c4
     by_cases c5 : 0 ≤ x5_1
     ·rw [if_pos c5] at H
      have c5b0 := decide_eq_true c5
      clear c5
      by_cases c6 : x5_1 < (l1.length : Int)
      ·rw [if_pos c6] at H
       have c6b0 := decide_eq_true c6
       clear c6
       by_cases c7 : ((rd_T48 l0 x5_1).f1) = ((rd_T48 l1 x5_1).f1)
       ·rw [if_pos c7] at H
        have c7b0 := beq_iff_eq.mpr c7
        have c7b1 := bne_eq_false_iff_eq.mpr c7
        clear c7
        by_cases c8 : ((rd_T48 l0 x5_1).f2) = ((rd_T48 l1 x5_1).f2)
        ·rw [if_pos c8] at H
         have c8b0 := beq_iff_eq.mpr c8
         have c8b1 := bne_eq_false_iff_eq.mpr c8
         clear c8
         replace H := Option.bind_eq_some_iff.mp H
         obtain ⟨t211, A90, H⟩ := H
         replace H : (if t211 = true then (incunableref15_SamePlaced.l0 k1 l0 l1 (wrap64 (x5_1 + 1))) else (some false)) = some r := H
         have A9 := Aside0.mk A90
         clear A90
         by_cases c10 : t211 = true
         ·subst c10
          have H1 : (incunableref15_SamePlaced.l0 k1 l0 l1 (wrap64 (x5_1 + 1))) = some r := by rw [if_pos rfl] at H; exact H
          clear H
          have H := H1
          clear H1
          have H' := Aside0.mk H
          clear H
          try go_wp2
          have n_ := aE (below_drew1 HB.out)
          clear HB
          have HB := n_
          clear n_
          have p205 : 0 ≤ (x5_1 : Int) := dt
          have q205 : x5_1 < (l0.length : Int) := dt
          obtain ⟨ad205, A205_2, c205_2, e205, hx205_0, hx205_1, hx205_2, hx205_3, hx205_4, hl205_2, hi205_2⟩ := at_T48 HR0.out x5_1 p205 q205
          have hw205_4 := hx205_4
          have hw205_3 := hx205_3
          have hw205_2 := hx205_2
          have hw205_1 := hx205_1
          have hw205_0 := hx205_0
          cases e205
          replace hx205_0 := hcB HB.out hx205_0
          replace hx205_1 := hcB HB.out hx205_1
          replace hx205_2 := hcB HB.out hx205_2
          replace hx205_3 := hcB HB.out hx205_3
          replace hx205_4 := hcB HB.out hx205_4
          have HR205_2 := Aside0.mk hi205_2
          have HC205_2 := Aside0.mk hl205_2
          clear hi205_2 hl205_2
          replace p205 := eq_true p205
          replace q205 := eq_true q205
          have p206 : 0 ≤ (x5_1 : Int) := dt
          have q206 : x5_1 < (l1.length : Int) := dt
          obtain ⟨ad206, A206_2, c206_2, e206, hx206_0, hx206_1, hx206_2, hx206_3, hx206_4, hl206_2, hi206_2⟩ := at_T48 HR1.out x5_1 p206 q206
          have hw206_4 := hx206_4
          have hw206_3 := hx206_3
          have hw206_2 := hx206_2
          have hw206_1 := hx206_1
          have hw206_0 := hx206_0
          cases e206
          replace hx206_0 := hcB HB.out hx206_0
          replace hx206_1 := hcB HB.out hx206_1
          replace hx206_2 := hcB HB.out hx206_2
          replace hx206_3 := hcB HB.out hx206_3
          replace hx206_4 := hcB HB.out hx206_4
          have HR206_2 := Aside0.mk hi206_2
          have HC206_2 := Aside0.mk hl206_2
          clear hi206_2 hl206_2
          replace p206 := eq_true p206
          replace q206 := eq_true q206
          have p207 : 0 ≤ (x5_1 : Int) := dt
          have q207 : x5_1 < (l0.length : Int) := dt
          obtain ⟨ad207, A207_2, c207_2, e207, hx207_0, hx207_1, hx207_2, hx207_3, hx207_4, hl207_2, hi207_2⟩ := at_T48 HR0.out x5_1 p207 q207
          have hw207_4 := hx207_4
          have hw207_3 := hx207_3
          have hw207_2 := hx207_2
          have hw207_1 := hx207_1
          have hw207_0 := hx207_0
          obtain rfl : ad205 = ad207 := (by injection e207)
          replace hx207_0 := hcB HB.out hx207_0
          replace hx207_1 := hcB HB.out hx207_1
          replace hx207_2 := hcB HB.out hx207_2
          replace hx207_3 := hcB HB.out hx207_3
          replace hx207_4 := hcB HB.out hx207_4
          have HR207_2 := Aside0.mk hi207_2
          have HC207_2 := Aside0.mk hl207_2
          clear hi207_2 hl207_2
          replace p207 := eq_true p207
          replace q207 := eq_true q207
          have ea_ := Option.some.inj (hx205_2.symm.trans hx207_2)
          injection ea_ with ea_ en_ ec_
          subst ea_
          subst ec_
          clear en_
          have p208 : 0 ≤ (x5_1 : Int) := dt
          have q208 : x5_1 < (l1.length : Int) := dt
          obtain ⟨ad208, A208_2, c208_2, e208, hx208_0, hx208_1, hx208_2, hx208_3, hx208_4, hl208_2, hi208_2⟩ := at_T48 HR1.out x5_1 p208 q208
          have hw208_4 := hx208_4
          have hw208_3 := hx208_3
          have hw208_2 := hx208_2
          have hw208_1 := hx208_1
          have hw208_0 := hx208_0
          obtain rfl : ad206 = ad208 := (by injection e208)
          replace hx208_0 := hcB HB.out hx208_0
          replace hx208_1 := hcB HB.out hx208_1
          replace hx208_2 := hcB HB.out hx208_2
          replace hx208_3 := hcB HB.out hx208_3
          replace hx208_4 := hcB HB.out hx208_4
          have HR208_2 := Aside0.mk hi208_2
          have HC208_2 := Aside0.mk hl208_2
          clear hi208_2 hl208_2
          replace p208 := eq_true p208
          replace q208 := eq_true q208
          have ea_ := Option.some.inj (hx206_2.symm.trans hx208_2)
          injection ea_ with ea_ en_ ec_
          subst ea_
          subst ec_
          clear en_
          have p209 : 0 ≤ (x5_1 : Int) := dt
          have q209 : x5_1 < (l0.length : Int) := dt
          obtain ⟨ad209, A209_2, c209_2, e209, hx209_0, hx209_1, hx209_2, hx209_3, hx209_4, hl209_2, hi209_2⟩ := at_T48 HR0.out x5_1 p209 q209
          have hw209_4 := hx209_4
          have hw209_3 := hx209_3
          have hw209_2 := hx209_2
          have hw209_1 := hx209_1
          have hw209_0 := hx209_0
          obtain rfl : ad205 = ad209 := (by injection e209)
          replace hx209_0 := hcB HB.out hx209_0
          replace hx209_1 := hcB HB.out hx209_1
          replace hx209_2 := hcB HB.out hx209_2
          replace hx209_3 := hcB HB.out hx209_3
          replace hx209_4 := hcB HB.out hx209_4
          have HR209_2 := Aside0.mk hi209_2
          have HC209_2 := Aside0.mk hl209_2
          clear hi209_2 hl209_2
          replace p209 := eq_true p209
          replace q209 := eq_true q209
          have ea_ := Option.some.inj (hx205_2.symm.trans hx209_2)
          injection ea_ with ea_ en_ ec_
          subst ea_
          subst ec_
          clear en_
          have p210 : 0 ≤ (x5_1 : Int) := dt
          have q210 : x5_1 < (l1.length : Int) := dt
          obtain ⟨ad210, A210_2, c210_2, e210, hx210_0, hx210_1, hx210_2, hx210_3, hx210_4, hl210_2, hi210_2⟩ := at_T48 HR1.out x5_1 p210 q210
          have hw210_4 := hx210_4
          have hw210_3 := hx210_3
          have hw210_2 := hx210_2
          have hw210_1 := hx210_1
          have hw210_0 := hx210_0
          obtain rfl : ad206 = ad210 := (by injection e210)
          replace hx210_0 := hcB HB.out hx210_0
          replace hx210_1 := hcB HB.out hx210_1
          replace hx210_2 := hcB HB.out hx210_2
          replace hx210_3 := hcB HB.out hx210_3
          replace hx210_4 := hcB HB.out hx210_4
          have HR210_2 := Aside0.mk hi210_2
          have HC210_2 := Aside0.mk hl210_2
          clear hi210_2 hl210_2
          replace p210 := eq_true p210
          replace q210 := eq_true q210
          have ea_ := Option.some.inj (hx206_2.symm.trans hx210_2)
          injection ea_ with ea_ en_ ec_
          subst ea_
          subst ec_
          clear en_
          refine st 38 (fun w' => w'.cell? (ad205.add ((x5_1).toNat * 5)) = some (.int .i64 ((rd_T48 l0 x5_1).f0.f0)) ∧ w'.cell? ⟨(ad205.add ((x5_1).toNat * 5)).block, (ad205.add ((x5_1).toNat * 5)).off + 1, none⟩ = some (.int .i64 ((rd_T48 l0 x5_1).f0.f1)) ∧ w'.cell? ⟨(ad205.add ((x5_1).toNat * 5)).block, (ad205.add ((x5_1).toNat * 5)).off + 2, none⟩ = some (.slice A205_2 ((rd_T48 l0 x5_1).f0.f2).length c205_2) ∧ w'.cell? ⟨(ad205.add ((x5_1).toNat * 5)).block, (ad205.add ((x5_1).toNat * 5)).off + 3, none⟩ = some (.int .i64 ((rd_T48 l0 x5_1).f1)) ∧ w'.cell? ⟨(ad205.add ((x5_1).toNat * 5)).block, (ad205.add ((x5_1).toNat * 5)).off + 4, none⟩ = some (.int .i64 ((rd_T48 l0 x5_1).f2)) ∧ w'.cell? (ad206.add ((x5_1).toNat * 5)) = some (.int .i64 ((rd_T48 l1 x5_1).f0.f0)) ∧ w'.cell? ⟨(ad206.add ((x5_1).toNat * 5)).block, (ad206.add ((x5_1).toNat * 5)).off + 1, none⟩ = some (.int .i64 ((rd_T48 l1 x5_1).f0.f1)) ∧ w'.cell? ⟨(ad206.add ((x5_1).toNat * 5)).block, (ad206.add ((x5_1).toNat * 5)).off + 2, none⟩ = some (.slice A206_2 ((rd_T48 l1 x5_1).f0.f2).length c206_2) ∧ w'.cell? ⟨(ad206.add ((x5_1).toNat * 5)).block, (ad206.add ((x5_1).toNat * 5)).off + 3, none⟩ = some (.int .i64 ((rd_T48 l1 x5_1).f1)) ∧ w'.cell? ⟨(ad206.add ((x5_1).toNat * 5)).block, (ad206.add ((x5_1).toNat * 5)).off + 4, none⟩ = some (.int .i64 ((rd_T48 l1 x5_1).f2)) ∧ w'.cell? (ad205.add ((x5_1).toNat * 5)) = some (.int .i64 ((rd_T48 l0 x5_1).f0.f0)) ∧ w'.cell? ⟨(ad205.add ((x5_1).toNat * 5)).block, (ad205.add ((x5_1).toNat * 5)).off + 1, none⟩ = some (.int .i64 ((rd_T48 l0 x5_1).f0.f1)) ∧ w'.cell? ⟨(ad205.add ((x5_1).toNat * 5)).block, (ad205.add ((x5_1).toNat * 5)).off + 2, none⟩ = some (.slice A205_2 ((rd_T48 l0 x5_1).f0.f2).length c205_2) ∧ w'.cell? ⟨(ad205.add ((x5_1).toNat * 5)).block, (ad205.add ((x5_1).toNat * 5)).off + 3, none⟩ = some (.int .i64 ((rd_T48 l0 x5_1).f1)) ∧ w'.cell? ⟨(ad205.add ((x5_1).toNat * 5)).block, (ad205.add ((x5_1).toNat * 5)).off + 4, none⟩ = some (.int .i64 ((rd_T48 l0 x5_1).f2)) ∧ w'.cell? (ad206.add ((x5_1).toNat * 5)) = some (.int .i64 ((rd_T48 l1 x5_1).f0.f0)) ∧ w'.cell? ⟨(ad206.add ((x5_1).toNat * 5)).block, (ad206.add ((x5_1).toNat * 5)).off + 1, none⟩ = some (.int .i64 ((rd_T48 l1 x5_1).f0.f1)) ∧ w'.cell? ⟨(ad206.add ((x5_1).toNat * 5)).block, (ad206.add ((x5_1).toNat * 5)).off + 2, none⟩ = some (.slice A206_2 ((rd_T48 l1 x5_1).f0.f2).length c206_2) ∧ w'.cell? ⟨(ad206.add ((x5_1).toNat * 5)).block, (ad206.add ((x5_1).toNat * 5)).off + 3, none⟩ = some (.int .i64 ((rd_T48 l1 x5_1).f1)) ∧ w'.cell? ⟨(ad206.add ((x5_1).toNat * 5)).block, (ad206.add ((x5_1).toNat * 5)).off + 4, none⟩ = some (.int .i64 ((rd_T48 l1 x5_1).f2)) ∧ w'.cell? (ad205.add ((x5_1).toNat * 5)) = some (.int .i64 ((rd_T48 l0 x5_1).f0.f0)) ∧ w'.cell? ⟨(ad205.add ((x5_1).toNat * 5)).block, (ad205.add ((x5_1).toNat * 5)).off + 1, none⟩ = some (.int .i64 ((rd_T48 l0 x5_1).f0.f1)) ∧ w'.cell? ⟨(ad205.add ((x5_1).toNat * 5)).block, (ad205.add ((x5_1).toNat * 5)).off + 2, none⟩ = some (.slice A205_2 ((rd_T48 l0 x5_1).f0.f2).length c205_2) ∧ w'.cell? ⟨(ad205.add ((x5_1).toNat * 5)).block, (ad205.add ((x5_1).toNat * 5)).off + 3, none⟩ = some (.int .i64 ((rd_T48 l0 x5_1).f1)) ∧ w'.cell? ⟨(ad205.add ((x5_1).toNat * 5)).block, (ad205.add ((x5_1).toNat * 5)).off + 4, none⟩ = some (.int .i64 ((rd_T48 l0 x5_1).f2)) ∧ w'.cell? (ad206.add ((x5_1).toNat * 5)) = some (.int .i64 ((rd_T48 l1 x5_1).f0.f0)) ∧ w'.cell? ⟨(ad206.add ((x5_1).toNat * 5)).block, (ad206.add ((x5_1).toNat * 5)).off + 1, none⟩ = some (.int .i64 ((rd_T48 l1 x5_1).f0.f1)) ∧ w'.cell? ⟨(ad206.add ((x5_1).toNat * 5)).block, (ad206.add ((x5_1).toNat * 5)).off + 2, none⟩ = some (.slice A206_2 ((rd_T48 l1 x5_1).f0.f2).length c206_2) ∧ w'.cell? ⟨(ad206.add ((x5_1).toNat * 5)).block, (ad206.add ((x5_1).toNat * 5)).off + 3, none⟩ = some (.int .i64 ((rd_T48 l1 x5_1).f1)) ∧ w'.cell? ⟨(ad206.add ((x5_1).toNat * 5)).block, (ad206.add ((x5_1).toNat * 5)).off + 4, none⟩ = some (.int .i64 ((rd_T48 l1 x5_1).f2))) [] (bv 38 0) incunableref15_SamePlaced.tab6 incunableref15_SamePlaced.bits6 ⟨(hcB HB.out hw205_0), (hcB HB.out hw205_1), (hcB HB.out hw205_2), (hcB HB.out hw205_3), (hcB HB.out hw205_4), (hcB HB.out hw206_0), (hcB HB.out hw206_1), (hcB HB.out hw206_2), (hcB HB.out hw206_3), (hcB HB.out hw206_4), (hcB HB.out hw207_0), (hcB HB.out hw207_1), (hcB HB.out hw207_2), (hcB HB.out hw207_3), (hcB HB.out hw207_4), (hcB HB.out hw208_0), (hcB HB.out hw208_1), (hcB HB.out hw208_2), (hcB HB.out hw208_3), (hcB HB.out hw208_4), (hcB HB.out hw209_0), (hcB HB.out hw209_1), (hcB HB.out hw209_2), (hcB HB.out hw209_3), (hcB HB.out hw209_4), (hcB HB.out hw210_0), (hcB HB.out hw210_1), (hcB HB.out hw210_2), (hcB HB.out hw210_3), (hcB HB.out hw210_4)⟩ (fun hHeld HT_ HW_ => ?_)
          generalize wr.drew = w11 at HB HR205_2 HR206_2 HR207_2 HR208_2 HR209_2 HR210_2 hx205_0 hx205_1 hx205_2 hx205_3 hx205_4 hx206_0 hx206_1 hx206_2 hx206_3 hx206_4 hx207_0 hx207_1 hx207_2 hx207_3 hx207_4 hx208_0 hx208_1 hx208_2 hx208_3 hx208_4 hx209_0 hx209_1 hx209_2 hx209_3 hx209_4 hx210_0 hx210_1 hx210_2 hx210_3 hx210_4 hHeld ⊢
          refine pu 0 17 (bv 38 1) HT_ rfl rfl ?_
          refine pu 1 18 (bv 38 3) HT_ rfl rfl ?_
          refine pu 2 19 (bv 38 7) HT_ rfl rfl ?_
          refine pu 3 20 (bv 38 15) HT_ rfl rfl ?_
          refine pu 5 22 (bv 38 47) HT_ rfl rfl ?_
          refine pu 6 23 (bv 38 111) HT_ rfl rfl ?_
          refine pu 7 24 (bv 38 239) HT_ rfl rfl ?_
          refine pu 8 25 (bv 38 495) HT_ rfl rfl ?_
          refine tk 4 21 (bv 38 511) HT_ HW_ hHeld rfl rfl (by rintro w' ⟨s0, s1, s2, s3, s4, s5, s6, s7, s8, s9, s10, s11, s12, s13, s14, s15, s16, s17, s18, s19, s20, s21, s22, s23, s24, s25, s26, s27, s28, s29⟩; exact yl) ?_
          refine tk 9 26 (bv 38 1023) HT_ HW_ hHeld rfl rfl (by rintro w' ⟨s0, s1, s2, s3, s4, s5, s6, s7, s8, s9, s10, s11, s12, s13, s14, s15, s16, s17, s18, s19, s20, s21, s22, s23, s24, s25, s26, s27, s28, s29⟩; exact yl) ?_
          refine pu 10 27 (bv 38 2047) HT_ rfl rfl ?_
          refine pu 11 28 (bv 38 4095) HT_ rfl rfl ?_
          refine pu 12 29 (bv 38 8191) HT_ rfl rfl ?_
          refine pu 13 30 (bv 38 16383) HT_ rfl rfl ?_
          refine pu 14 31 (bv 38 32767) HT_ rfl rfl ?_
          refine pu 15 32 (bv 38 65535) HT_ rfl rfl ?_
          refine pu 17 34 (bv 38 196607) HT_ rfl rfl ?_
          refine pu 18 35 (bv 38 458751) HT_ rfl rfl ?_
          refine pu 19 36 (bv 38 983039) HT_ rfl rfl ?_
          refine pu 20 37 (bv 38 2031615) HT_ rfl rfl ?_
          refine tk 16 33 (bv 38 2097151) HT_ HW_ hHeld rfl rfl (by rintro w' ⟨s0, s1, s2, s3, s4, s5, s6, s7, s8, s9, s10, s11, s12, s13, s14, s15, s16, s17, s18, s19, s20, s21, s22, s23, s24, s25, s26, s27, s28, s29⟩; exact yl) ?_
          refine tk 21 38 (bv 38 4194303) HT_ HW_ hHeld rfl rfl (by rintro w' ⟨s0, s1, s2, s3, s4, s5, s6, s7, s8, s9, s10, s11, s12, s13, s14, s15, s16, s17, s18, s19, s20, s21, s22, s23, s24, s25, s26, s27, s28, s29⟩; exact yl) ?_
          refine pu 22 39 (bv 38 8388607) HT_ rfl rfl ?_
          refine pu 23 40 (bv 38 16777215) HT_ rfl rfl ?_
          refine pu 24 41 (bv 38 33554431) HT_ rfl rfl ?_
          refine pu 25 42 (bv 38 67108863) HT_ rfl rfl ?_
          refine pu 26 43 (bv 38 134217727) HT_ rfl rfl ?_
          refine pu 27 44 (bv 38 268435455) HT_ rfl rfl ?_
          refine pu 28 45 (bv 38 536870911) HT_ rfl rfl ?_
          refine pu 30 47 (bv 38 1610612735) HT_ rfl rfl ?_
          refine pu 31 48 (bv 38 3758096383) HT_ rfl rfl ?_
          refine pu 32 49 (bv 38 8053063679) HT_ rfl rfl ?_
          refine pu 33 50 (bv 38 16642998271) HT_ rfl rfl ?_
          refine tk 29 46 (bv 38 17179869183) HT_ HW_ hHeld rfl rfl (by rintro w' ⟨s0, s1, s2, s3, s4, s5, s6, s7, s8, s9, s10, s11, s12, s13, s14, s15, s16, s17, s18, s19, s20, s21, s22, s23, s24, s25, s26, s27, s28, s29⟩; exact yl) ?_
          refine tk 34 51 (bv 38 34359738367) HT_ HW_ hHeld rfl rfl (by rintro w' ⟨s0, s1, s2, s3, s4, s5, s6, s7, s8, s9, s10, s11, s12, s13, s14, s15, s16, s17, s18, s19, s20, s21, s22, s23, s24, s25, s26, s27, s28, s29⟩; exact yl) ?_
          refine one_ (i := 35) (N := some 52) (bv 38 68719476735) rfl rfl (one_of HT_.out (by kernel_rfl)) (by decide) (fun K hK => ?_)
          refine gK Try.func25 rfl #[.agg #[.int .i64 ((rd_T48 l0 x5_1).f0.f0), .int .i64 ((rd_T48 l0 x5_1).f0.f1), .slice A205_2 ((rd_T48 l0 x5_1).f0.f2).length c205_2], .agg #[.int .i64 ((rd_T48 l1 x5_1).f0.f0), .int .i64 ((rd_T48 l1 x5_1).f0.f1), .slice A206_2 ((rd_T48 l1 x5_1).f0.f2).length c206_2]] rfl rfl ?_
          with_reducible refine (incunableref05_Same.calls ((rd_T48 l0 x5_1).f0.f0) ((rd_T48 l0 x5_1).f0.f1) _ _ ((rd_T48 l0 x5_1).f0.f2) ((rd_T48 l1 x5_1).f0.f0) ((rd_T48 l1 x5_1).f0.f1) _ _ ((rd_T48 l1 x5_1).f0.f2) true _ ?side1 ?side2 ?side3 ?side4 A9.out).mono ?_
          (case side1 => exact cU (Kd.C_below HR209_2.out HB.out))
          (case side2 => exact HC209_2.out)
          (case side3 => exact cU (Kd.C_below HR210_2.out HB.out))
          (case side4 => exact HC210_2.out)
          rintro e w12 ⟨rfl, hb⟩
          refine ⟨_, rfl, ?_⟩
          have n_ := aE (bs hb)
          clear HB
          have HB := n_
          clear n_
          (try clear hb)
          (try clear hb2)
          (try clear hk)
          (try clear hi)
          refine hK.out _ _ ⟨(hcB HB.out hw205_0), (hcB HB.out hw205_1), (hcB HB.out hw205_2), (hcB HB.out hw205_3), (hcB HB.out hw205_4), (hcB HB.out hw206_0), (hcB HB.out hw206_1), (hcB HB.out hw206_2), (hcB HB.out hw206_3), (hcB HB.out hw206_4), (hcB HB.out hw207_0), (hcB HB.out hw207_1), (hcB HB.out hw207_2), (hcB HB.out hw207_3), (hcB HB.out hw207_4), (hcB HB.out hw208_0), (hcB HB.out hw208_1), (hcB HB.out hw208_2), (hcB HB.out hw208_3), (hcB HB.out hw208_4), (hcB HB.out hw209_0), (hcB HB.out hw209_1), (hcB HB.out hw209_2), (hcB HB.out hw209_3), (hcB HB.out hw209_4), (hcB HB.out hw210_0), (hcB HB.out hw210_1), (hcB HB.out hw210_2), (hcB HB.out hw210_3), (hcB HB.out hw210_4)⟩ (fun hHeld => ?_)
          clear hK K
          refine nm (some 52) ?_
          refine pu 36 53 (bv 38 137438953471) HT_ rfl rfl ?_
          refine pu 37 54 (bv 38 274877906943) HT_ rfl rfl ?_
          refine done_ (done_of HT_.out (by kernel_rfl)) ?_
          try go_wp2
          go_roundg k1
          case measure => have := HK1.out; omega
          case rel => exact ⟨(wrap64 (x5_1 + 1)), rq, H', ⟨by have := HK1.out; omega⟩, ⟨bl⟩⟩
         ·replace c10 := Bool.eq_false_iff.mpr c10
          subst c10
          have H1 : (some false) = some r := by rw [if_neg (show ¬ (false = true) by decide)] at H; exact H
          clear H
          have H := H1
          clear H1
          obtain rfl := Option.some.inj H
          try go_wp2
          have n_ := aE (below_drew1 HB.out)
          clear HB
          have HB := n_
          clear n_
          have p205 : 0 ≤ (x5_1 : Int) := dt
          have q205 : x5_1 < (l0.length : Int) := dt
          obtain ⟨ad205, A205_2, c205_2, e205, hx205_0, hx205_1, hx205_2, hx205_3, hx205_4, hl205_2, hi205_2⟩ := at_T48 HR0.out x5_1 p205 q205
          have hw205_4 := hx205_4
          have hw205_3 := hx205_3
          have hw205_2 := hx205_2
          have hw205_1 := hx205_1
          have hw205_0 := hx205_0
          cases e205
          replace hx205_0 := hcB HB.out hx205_0
          replace hx205_1 := hcB HB.out hx205_1
          replace hx205_2 := hcB HB.out hx205_2
          replace hx205_3 := hcB HB.out hx205_3
          replace hx205_4 := hcB HB.out hx205_4
          have HR205_2 := Aside0.mk hi205_2
          have HC205_2 := Aside0.mk hl205_2
          clear hi205_2 hl205_2
          replace p205 := eq_true p205
          replace q205 := eq_true q205
          have p206 : 0 ≤ (x5_1 : Int) := dt
          have q206 : x5_1 < (l1.length : Int) := dt
          obtain ⟨ad206, A206_2, c206_2, e206, hx206_0, hx206_1, hx206_2, hx206_3, hx206_4, hl206_2, hi206_2⟩ := at_T48 HR1.out x5_1 p206 q206
          have hw206_4 := hx206_4
          have hw206_3 := hx206_3
          have hw206_2 := hx206_2
          have hw206_1 := hx206_1
          have hw206_0 := hx206_0
          cases e206
          replace hx206_0 := hcB HB.out hx206_0
          replace hx206_1 := hcB HB.out hx206_1
          replace hx206_2 := hcB HB.out hx206_2
          replace hx206_3 := hcB HB.out hx206_3
          replace hx206_4 := hcB HB.out hx206_4
          have HR206_2 := Aside0.mk hi206_2
          have HC206_2 := Aside0.mk hl206_2
          clear hi206_2 hl206_2
          replace p206 := eq_true p206
          replace q206 := eq_true q206
          have p207 : 0 ≤ (x5_1 : Int) := dt
          have q207 : x5_1 < (l0.length : Int) := dt
          obtain ⟨ad207, A207_2, c207_2, e207, hx207_0, hx207_1, hx207_2, hx207_3, hx207_4, hl207_2, hi207_2⟩ := at_T48 HR0.out x5_1 p207 q207
          have hw207_4 := hx207_4
          have hw207_3 := hx207_3
          have hw207_2 := hx207_2
          have hw207_1 := hx207_1
          have hw207_0 := hx207_0
          obtain rfl : ad205 = ad207 := (by injection e207)
          replace hx207_0 := hcB HB.out hx207_0
          replace hx207_1 := hcB HB.out hx207_1
          replace hx207_2 := hcB HB.out hx207_2
          replace hx207_3 := hcB HB.out hx207_3
          replace hx207_4 := hcB HB.out hx207_4
          have HR207_2 := Aside0.mk hi207_2
          have HC207_2 := Aside0.mk hl207_2
          clear hi207_2 hl207_2
          replace p207 := eq_true p207
          replace q207 := eq_true q207
          have ea_ := Option.some.inj (hx205_2.symm.trans hx207_2)
          injection ea_ with ea_ en_ ec_
          subst ea_
          subst ec_
          clear en_
          have p208 : 0 ≤ (x5_1 : Int) := dt
          have q208 : x5_1 < (l1.length : Int) := dt
          obtain ⟨ad208, A208_2, c208_2, e208, hx208_0, hx208_1, hx208_2, hx208_3, hx208_4, hl208_2, hi208_2⟩ := at_T48 HR1.out x5_1 p208 q208
          have hw208_4 := hx208_4
          have hw208_3 := hx208_3
          have hw208_2 := hx208_2
          have hw208_1 := hx208_1
          have hw208_0 := hx208_0
          obtain rfl : ad206 = ad208 := (by injection e208)
          replace hx208_0 := hcB HB.out hx208_0
          replace hx208_1 := hcB HB.out hx208_1
          replace hx208_2 := hcB HB.out hx208_2
          replace hx208_3 := hcB HB.out hx208_3
          replace hx208_4 := hcB HB.out hx208_4
          have HR208_2 := Aside0.mk hi208_2
          have HC208_2 := Aside0.mk hl208_2
          clear hi208_2 hl208_2
          replace p208 := eq_true p208
          replace q208 := eq_true q208
          have ea_ := Option.some.inj (hx206_2.symm.trans hx208_2)
          injection ea_ with ea_ en_ ec_
          subst ea_
          subst ec_
          clear en_
          have p209 : 0 ≤ (x5_1 : Int) := dt
          have q209 : x5_1 < (l0.length : Int) := dt
          obtain ⟨ad209, A209_2, c209_2, e209, hx209_0, hx209_1, hx209_2, hx209_3, hx209_4, hl209_2, hi209_2⟩ := at_T48 HR0.out x5_1 p209 q209
          have hw209_4 := hx209_4
          have hw209_3 := hx209_3
          have hw209_2 := hx209_2
          have hw209_1 := hx209_1
          have hw209_0 := hx209_0
          obtain rfl : ad205 = ad209 := (by injection e209)
          replace hx209_0 := hcB HB.out hx209_0
          replace hx209_1 := hcB HB.out hx209_1
          replace hx209_2 := hcB HB.out hx209_2
          replace hx209_3 := hcB HB.out hx209_3
          replace hx209_4 := hcB HB.out hx209_4
          have HR209_2 := Aside0.mk hi209_2
          have HC209_2 := Aside0.mk hl209_2
          clear hi209_2 hl209_2
          replace p209 := eq_true p209
          replace q209 := eq_true q209
          have ea_ := Option.some.inj (hx205_2.symm.trans hx209_2)
          injection ea_ with ea_ en_ ec_
          subst ea_
          subst ec_
          clear en_
          have p210 : 0 ≤ (x5_1 : Int) := dt
          have q210 : x5_1 < (l1.length : Int) := dt
          obtain ⟨ad210, A210_2, c210_2, e210, hx210_0, hx210_1, hx210_2, hx210_3, hx210_4, hl210_2, hi210_2⟩ := at_T48 HR1.out x5_1 p210 q210
          have hw210_4 := hx210_4
          have hw210_3 := hx210_3
          have hw210_2 := hx210_2
          have hw210_1 := hx210_1
          have hw210_0 := hx210_0
          obtain rfl : ad206 = ad210 := (by injection e210)
          replace hx210_0 := hcB HB.out hx210_0
          replace hx210_1 := hcB HB.out hx210_1
          replace hx210_2 := hcB HB.out hx210_2
          replace hx210_3 := hcB HB.out hx210_3
          replace hx210_4 := hcB HB.out hx210_4
          have HR210_2 := Aside0.mk hi210_2
          have HC210_2 := Aside0.mk hl210_2
          clear hi210_2 hl210_2
          replace p210 := eq_true p210
          replace q210 := eq_true q210
          have ea_ := Option.some.inj (hx206_2.symm.trans hx210_2)
          injection ea_ with ea_ en_ ec_
          subst ea_
          subst ec_
          clear en_
          refine st 38 (fun w' => w'.cell? (ad205.add ((x5_1).toNat * 5)) = some (.int .i64 ((rd_T48 l0 x5_1).f0.f0)) ∧ w'.cell? ⟨(ad205.add ((x5_1).toNat * 5)).block, (ad205.add ((x5_1).toNat * 5)).off + 1, none⟩ = some (.int .i64 ((rd_T48 l0 x5_1).f0.f1)) ∧ w'.cell? ⟨(ad205.add ((x5_1).toNat * 5)).block, (ad205.add ((x5_1).toNat * 5)).off + 2, none⟩ = some (.slice A205_2 ((rd_T48 l0 x5_1).f0.f2).length c205_2) ∧ w'.cell? ⟨(ad205.add ((x5_1).toNat * 5)).block, (ad205.add ((x5_1).toNat * 5)).off + 3, none⟩ = some (.int .i64 ((rd_T48 l0 x5_1).f1)) ∧ w'.cell? ⟨(ad205.add ((x5_1).toNat * 5)).block, (ad205.add ((x5_1).toNat * 5)).off + 4, none⟩ = some (.int .i64 ((rd_T48 l0 x5_1).f2)) ∧ w'.cell? (ad206.add ((x5_1).toNat * 5)) = some (.int .i64 ((rd_T48 l1 x5_1).f0.f0)) ∧ w'.cell? ⟨(ad206.add ((x5_1).toNat * 5)).block, (ad206.add ((x5_1).toNat * 5)).off + 1, none⟩ = some (.int .i64 ((rd_T48 l1 x5_1).f0.f1)) ∧ w'.cell? ⟨(ad206.add ((x5_1).toNat * 5)).block, (ad206.add ((x5_1).toNat * 5)).off + 2, none⟩ = some (.slice A206_2 ((rd_T48 l1 x5_1).f0.f2).length c206_2) ∧ w'.cell? ⟨(ad206.add ((x5_1).toNat * 5)).block, (ad206.add ((x5_1).toNat * 5)).off + 3, none⟩ = some (.int .i64 ((rd_T48 l1 x5_1).f1)) ∧ w'.cell? ⟨(ad206.add ((x5_1).toNat * 5)).block, (ad206.add ((x5_1).toNat * 5)).off + 4, none⟩ = some (.int .i64 ((rd_T48 l1 x5_1).f2)) ∧ w'.cell? (ad205.add ((x5_1).toNat * 5)) = some (.int .i64 ((rd_T48 l0 x5_1).f0.f0)) ∧ w'.cell? ⟨(ad205.add ((x5_1).toNat * 5)).block, (ad205.add ((x5_1).toNat * 5)).off + 1, none⟩ = some (.int .i64 ((rd_T48 l0 x5_1).f0.f1)) ∧ w'.cell? ⟨(ad205.add ((x5_1).toNat * 5)).block, (ad205.add ((x5_1).toNat * 5)).off + 2, none⟩ = some (.slice A205_2 ((rd_T48 l0 x5_1).f0.f2).length c205_2) ∧ w'.cell? ⟨(ad205.add ((x5_1).toNat * 5)).block, (ad205.add ((x5_1).toNat * 5)).off + 3, none⟩ = some (.int .i64 ((rd_T48 l0 x5_1).f1)) ∧ w'.cell? ⟨(ad205.add ((x5_1).toNat * 5)).block, (ad205.add ((x5_1).toNat * 5)).off + 4, none⟩ = some (.int .i64 ((rd_T48 l0 x5_1).f2)) ∧ w'.cell? (ad206.add ((x5_1).toNat * 5)) = some (.int .i64 ((rd_T48 l1 x5_1).f0.f0)) ∧ w'.cell? ⟨(ad206.add ((x5_1).toNat * 5)).block, (ad206.add ((x5_1).toNat * 5)).off + 1, none⟩ = some (.int .i64 ((rd_T48 l1 x5_1).f0.f1)) ∧ w'.cell? ⟨(ad206.add ((x5_1).toNat * 5)).block, (ad206.add ((x5_1).toNat * 5)).off + 2, none⟩ = some (.slice A206_2 ((rd_T48 l1 x5_1).f0.f2).length c206_2) ∧ w'.cell? ⟨(ad206.add ((x5_1).toNat * 5)).block, (ad206.add ((x5_1).toNat * 5)).off + 3, none⟩ = some (.int .i64 ((rd_T48 l1 x5_1).f1)) ∧ w'.cell? ⟨(ad206.add ((x5_1).toNat * 5)).block, (ad206.add ((x5_1).toNat * 5)).off + 4, none⟩ = some (.int .i64 ((rd_T48 l1 x5_1).f2)) ∧ w'.cell? (ad205.add ((x5_1).toNat * 5)) = some (.int .i64 ((rd_T48 l0 x5_1).f0.f0)) ∧ w'.cell? ⟨(ad205.add ((x5_1).toNat * 5)).block, (ad205.add ((x5_1).toNat * 5)).off + 1, none⟩ = some (.int .i64 ((rd_T48 l0 x5_1).f0.f1)) ∧ w'.cell? ⟨(ad205.add ((x5_1).toNat * 5)).block, (ad205.add ((x5_1).toNat * 5)).off + 2, none⟩ = some (.slice A205_2 ((rd_T48 l0 x5_1).f0.f2).length c205_2) ∧ w'.cell? ⟨(ad205.add ((x5_1).toNat * 5)).block, (ad205.add ((x5_1).toNat * 5)).off + 3, none⟩ = some (.int .i64 ((rd_T48 l0 x5_1).f1)) ∧ w'.cell? ⟨(ad205.add ((x5_1).toNat * 5)).block, (ad205.add ((x5_1).toNat * 5)).off + 4, none⟩ = some (.int .i64 ((rd_T48 l0 x5_1).f2)) ∧ w'.cell? (ad206.add ((x5_1).toNat * 5)) = some (.int .i64 ((rd_T48 l1 x5_1).f0.f0)) ∧ w'.cell? ⟨(ad206.add ((x5_1).toNat * 5)).block, (ad206.add ((x5_1).toNat * 5)).off + 1, none⟩ = some (.int .i64 ((rd_T48 l1 x5_1).f0.f1)) ∧ w'.cell? ⟨(ad206.add ((x5_1).toNat * 5)).block, (ad206.add ((x5_1).toNat * 5)).off + 2, none⟩ = some (.slice A206_2 ((rd_T48 l1 x5_1).f0.f2).length c206_2) ∧ w'.cell? ⟨(ad206.add ((x5_1).toNat * 5)).block, (ad206.add ((x5_1).toNat * 5)).off + 3, none⟩ = some (.int .i64 ((rd_T48 l1 x5_1).f1)) ∧ w'.cell? ⟨(ad206.add ((x5_1).toNat * 5)).block, (ad206.add ((x5_1).toNat * 5)).off + 4, none⟩ = some (.int .i64 ((rd_T48 l1 x5_1).f2))) [] (bv 38 0) incunableref15_SamePlaced.tab6 incunableref15_SamePlaced.bits6 ⟨(hcB HB.out hw205_0), (hcB HB.out hw205_1), (hcB HB.out hw205_2), (hcB HB.out hw205_3), (hcB HB.out hw205_4), (hcB HB.out hw206_0), (hcB HB.out hw206_1), (hcB HB.out hw206_2), (hcB HB.out hw206_3), (hcB HB.out hw206_4), (hcB HB.out hw207_0), (hcB HB.out hw207_1), (hcB HB.out hw207_2), (hcB HB.out hw207_3), (hcB HB.out hw207_4), (hcB HB.out hw208_0), (hcB HB.out hw208_1), (hcB HB.out hw208_2), (hcB HB.out hw208_3), (hcB HB.out hw208_4), (hcB HB.out hw209_0), (hcB HB.out hw209_1), (hcB HB.out hw209_2), (hcB HB.out hw209_3), (hcB HB.out hw209_4), (hcB HB.out hw210_0), (hcB HB.out hw210_1), (hcB HB.out hw210_2), (hcB HB.out hw210_3), (hcB HB.out hw210_4)⟩ (fun hHeld HT_ HW_ => ?_)
          generalize wr.drew = w13 at HB HR205_2 HR206_2 HR207_2 HR208_2 HR209_2 HR210_2 hx205_0 hx205_1 hx205_2 hx205_3 hx205_4 hx206_0 hx206_1 hx206_2 hx206_3 hx206_4 hx207_0 hx207_1 hx207_2 hx207_3 hx207_4 hx208_0 hx208_1 hx208_2 hx208_3 hx208_4 hx209_0 hx209_1 hx209_2 hx209_3 hx209_4 hx210_0 hx210_1 hx210_2 hx210_3 hx210_4 hHeld ⊢
          refine pu 0 17 (bv 38 1) HT_ rfl rfl ?_
          refine pu 1 18 (bv 38 3) HT_ rfl rfl ?_
          refine pu 2 19 (bv 38 7) HT_ rfl rfl ?_
          refine pu 3 20 (bv 38 15) HT_ rfl rfl ?_
          refine pu 5 22 (bv 38 47) HT_ rfl rfl ?_
          refine pu 6 23 (bv 38 111) HT_ rfl rfl ?_
          refine pu 7 24 (bv 38 239) HT_ rfl rfl ?_
          refine pu 8 25 (bv 38 495) HT_ rfl rfl ?_
          refine tk 4 21 (bv 38 511) HT_ HW_ hHeld rfl rfl (by rintro w' ⟨s0, s1, s2, s3, s4, s5, s6, s7, s8, s9, s10, s11, s12, s13, s14, s15, s16, s17, s18, s19, s20, s21, s22, s23, s24, s25, s26, s27, s28, s29⟩; exact yl) ?_
          refine tk 9 26 (bv 38 1023) HT_ HW_ hHeld rfl rfl (by rintro w' ⟨s0, s1, s2, s3, s4, s5, s6, s7, s8, s9, s10, s11, s12, s13, s14, s15, s16, s17, s18, s19, s20, s21, s22, s23, s24, s25, s26, s27, s28, s29⟩; exact yl) ?_
          refine pu 10 27 (bv 38 2047) HT_ rfl rfl ?_
          refine pu 11 28 (bv 38 4095) HT_ rfl rfl ?_
          refine pu 12 29 (bv 38 8191) HT_ rfl rfl ?_
          refine pu 13 30 (bv 38 16383) HT_ rfl rfl ?_
          refine pu 14 31 (bv 38 32767) HT_ rfl rfl ?_
          refine pu 15 32 (bv 38 65535) HT_ rfl rfl ?_
          refine pu 17 34 (bv 38 196607) HT_ rfl rfl ?_
          refine pu 18 35 (bv 38 458751) HT_ rfl rfl ?_
          refine pu 19 36 (bv 38 983039) HT_ rfl rfl ?_
          refine pu 20 37 (bv 38 2031615) HT_ rfl rfl ?_
          refine tk 16 33 (bv 38 2097151) HT_ HW_ hHeld rfl rfl (by rintro w' ⟨s0, s1, s2, s3, s4, s5, s6, s7, s8, s9, s10, s11, s12, s13, s14, s15, s16, s17, s18, s19, s20, s21, s22, s23, s24, s25, s26, s27, s28, s29⟩; exact yl) ?_
          refine tk 21 38 (bv 38 4194303) HT_ HW_ hHeld rfl rfl (by rintro w' ⟨s0, s1, s2, s3, s4, s5, s6, s7, s8, s9, s10, s11, s12, s13, s14, s15, s16, s17, s18, s19, s20, s21, s22, s23, s24, s25, s26, s27, s28, s29⟩; exact yl) ?_
          refine pu 22 39 (bv 38 8388607) HT_ rfl rfl ?_
          refine pu 23 40 (bv 38 16777215) HT_ rfl rfl ?_
          refine pu 24 41 (bv 38 33554431) HT_ rfl rfl ?_
          refine pu 25 42 (bv 38 67108863) HT_ rfl rfl ?_
          refine pu 26 43 (bv 38 134217727) HT_ rfl rfl ?_
          refine pu 27 44 (bv 38 268435455) HT_ rfl rfl ?_
          refine pu 28 45 (bv 38 536870911) HT_ rfl rfl ?_
          refine pu 30 47 (bv 38 1610612735) HT_ rfl rfl ?_
          refine pu 31 48 (bv 38 3758096383) HT_ rfl rfl ?_
          refine pu 32 49 (bv 38 8053063679) HT_ rfl rfl ?_
          refine pu 33 50 (bv 38 16642998271) HT_ rfl rfl ?_
          refine tk 29 46 (bv 38 17179869183) HT_ HW_ hHeld rfl rfl (by rintro w' ⟨s0, s1, s2, s3, s4, s5, s6, s7, s8, s9, s10, s11, s12, s13, s14, s15, s16, s17, s18, s19, s20, s21, s22, s23, s24, s25, s26, s27, s28, s29⟩; exact yl) ?_
          refine tk 34 51 (bv 38 34359738367) HT_ HW_ hHeld rfl rfl (by rintro w' ⟨s0, s1, s2, s3, s4, s5, s6, s7, s8, s9, s10, s11, s12, s13, s14, s15, s16, s17, s18, s19, s20, s21, s22, s23, s24, s25, s26, s27, s28, s29⟩; exact yl) ?_
          refine one_ (i := 35) (N := some 52) (bv 38 68719476735) rfl rfl (one_of HT_.out (by kernel_rfl)) (by decide) (fun K hK => ?_)
          refine gK Try.func25 rfl #[.agg #[.int .i64 ((rd_T48 l0 x5_1).f0.f0), .int .i64 ((rd_T48 l0 x5_1).f0.f1), .slice A205_2 ((rd_T48 l0 x5_1).f0.f2).length c205_2], .agg #[.int .i64 ((rd_T48 l1 x5_1).f0.f0), .int .i64 ((rd_T48 l1 x5_1).f0.f1), .slice A206_2 ((rd_T48 l1 x5_1).f0.f2).length c206_2]] rfl rfl ?_
          with_reducible refine (incunableref05_Same.calls ((rd_T48 l0 x5_1).f0.f0) ((rd_T48 l0 x5_1).f0.f1) _ _ ((rd_T48 l0 x5_1).f0.f2) ((rd_T48 l1 x5_1).f0.f0) ((rd_T48 l1 x5_1).f0.f1) _ _ ((rd_T48 l1 x5_1).f0.f2) false _ ?side1 ?side2 ?side3 ?side4 A9.out).mono ?_
          (case side1 => exact cU (Kd.C_below HR209_2.out HB.out))
          (case side2 => exact HC209_2.out)
          (case side3 => exact cU (Kd.C_below HR210_2.out HB.out))
          (case side4 => exact HC210_2.out)
          rintro e w14 ⟨rfl, hb⟩
          refine ⟨_, rfl, ?_⟩
          have n_ := aE (bs hb)
          clear HB
          have HB := n_
          clear n_
          (try clear hb)
          (try clear hb2)
          (try clear hk)
          (try clear hi)
          refine hK.out _ _ ⟨(hcB HB.out hw205_0), (hcB HB.out hw205_1), (hcB HB.out hw205_2), (hcB HB.out hw205_3), (hcB HB.out hw205_4), (hcB HB.out hw206_0), (hcB HB.out hw206_1), (hcB HB.out hw206_2), (hcB HB.out hw206_3), (hcB HB.out hw206_4), (hcB HB.out hw207_0), (hcB HB.out hw207_1), (hcB HB.out hw207_2), (hcB HB.out hw207_3), (hcB HB.out hw207_4), (hcB HB.out hw208_0), (hcB HB.out hw208_1), (hcB HB.out hw208_2), (hcB HB.out hw208_3), (hcB HB.out hw208_4), (hcB HB.out hw209_0), (hcB HB.out hw209_1), (hcB HB.out hw209_2), (hcB HB.out hw209_3), (hcB HB.out hw209_4), (hcB HB.out hw210_0), (hcB HB.out hw210_1), (hcB HB.out hw210_2), (hcB HB.out hw210_3), (hcB HB.out hw210_4)⟩ (fun hHeld => ?_)
          clear hK K
          refine nm (some 52) ?_
          refine pu 36 53 (bv 38 137438953471) HT_ rfl rfl ?_
          refine pu 37 54 (bv 38 274877906943) HT_ rfl rfl ?_
          refine done_ (done_of HT_.out (by kernel_rfl)) ?_
          try go_wp2
          go_ret
          exact ⟨re, bl⟩
        ·rw [if_neg c8] at H
         have c8b0 := beq_eq_false_iff_ne.mpr c8
         have c8b1 := bne_iff_ne.mpr c8
         obtain rfl := Option.some.inj H
         try go_wp2
         have n_ := aE (below_drew1 HB.out)
         clear HB
         have HB := n_
         clear n_
         have p205 : 0 ≤ (x5_1 : Int) := dt
         have q205 : x5_1 < (l0.length : Int) := dt
         obtain ⟨ad205, A205_2, c205_2, e205, hx205_0, hx205_1, hx205_2, hx205_3, hx205_4, hl205_2, hi205_2⟩ := at_T48 HR0.out x5_1 p205 q205
         have hw205_4 := hx205_4
         have hw205_3 := hx205_3
         have hw205_2 := hx205_2
         have hw205_1 := hx205_1
         have hw205_0 := hx205_0
         cases e205
         replace hx205_0 := hcB HB.out hx205_0
         replace hx205_1 := hcB HB.out hx205_1
         replace hx205_2 := hcB HB.out hx205_2
         replace hx205_3 := hcB HB.out hx205_3
         replace hx205_4 := hcB HB.out hx205_4
         have HR205_2 := Aside0.mk hi205_2
         have HC205_2 := Aside0.mk hl205_2
         clear hi205_2 hl205_2
         replace p205 := eq_true p205
         replace q205 := eq_true q205
         have p206 : 0 ≤ (x5_1 : Int) := dt
         have q206 : x5_1 < (l1.length : Int) := dt
         obtain ⟨ad206, A206_2, c206_2, e206, hx206_0, hx206_1, hx206_2, hx206_3, hx206_4, hl206_2, hi206_2⟩ := at_T48 HR1.out x5_1 p206 q206
         have hw206_4 := hx206_4
         have hw206_3 := hx206_3
         have hw206_2 := hx206_2
         have hw206_1 := hx206_1
         have hw206_0 := hx206_0
         cases e206
         replace hx206_0 := hcB HB.out hx206_0
         replace hx206_1 := hcB HB.out hx206_1
         replace hx206_2 := hcB HB.out hx206_2
         replace hx206_3 := hcB HB.out hx206_3
         replace hx206_4 := hcB HB.out hx206_4
         have HR206_2 := Aside0.mk hi206_2
         have HC206_2 := Aside0.mk hl206_2
         clear hi206_2 hl206_2
         replace p206 := eq_true p206
         replace q206 := eq_true q206
         have p207 : 0 ≤ (x5_1 : Int) := dt
         have q207 : x5_1 < (l0.length : Int) := dt
         obtain ⟨ad207, A207_2, c207_2, e207, hx207_0, hx207_1, hx207_2, hx207_3, hx207_4, hl207_2, hi207_2⟩ := at_T48 HR0.out x5_1 p207 q207
         have hw207_4 := hx207_4
         have hw207_3 := hx207_3
         have hw207_2 := hx207_2
         have hw207_1 := hx207_1
         have hw207_0 := hx207_0
         obtain rfl : ad205 = ad207 := (by injection e207)
         replace hx207_0 := hcB HB.out hx207_0
         replace hx207_1 := hcB HB.out hx207_1
         replace hx207_2 := hcB HB.out hx207_2
         replace hx207_3 := hcB HB.out hx207_3
         replace hx207_4 := hcB HB.out hx207_4
         have HR207_2 := Aside0.mk hi207_2
         have HC207_2 := Aside0.mk hl207_2
         clear hi207_2 hl207_2
         replace p207 := eq_true p207
         replace q207 := eq_true q207
         have ea_ := Option.some.inj (hx205_2.symm.trans hx207_2)
         injection ea_ with ea_ en_ ec_
         subst ea_
         subst ec_
         clear en_
         have p208 : 0 ≤ (x5_1 : Int) := dt
         have q208 : x5_1 < (l1.length : Int) := dt
         obtain ⟨ad208, A208_2, c208_2, e208, hx208_0, hx208_1, hx208_2, hx208_3, hx208_4, hl208_2, hi208_2⟩ := at_T48 HR1.out x5_1 p208 q208
         have hw208_4 := hx208_4
         have hw208_3 := hx208_3
         have hw208_2 := hx208_2
         have hw208_1 := hx208_1
         have hw208_0 := hx208_0
         obtain rfl : ad206 = ad208 := (by injection e208)
         replace hx208_0 := hcB HB.out hx208_0
         replace hx208_1 := hcB HB.out hx208_1
         replace hx208_2 := hcB HB.out hx208_2
         replace hx208_3 := hcB HB.out hx208_3
         replace hx208_4 := hcB HB.out hx208_4
         have HR208_2 := Aside0.mk hi208_2
         have HC208_2 := Aside0.mk hl208_2
         clear hi208_2 hl208_2
         replace p208 := eq_true p208
         replace q208 := eq_true q208
         have ea_ := Option.some.inj (hx206_2.symm.trans hx208_2)
         injection ea_ with ea_ en_ ec_
         subst ea_
         subst ec_
         clear en_
         refine st 38 (fun w' => w'.cell? (ad205.add ((x5_1).toNat * 5)) = some (.int .i64 ((rd_T48 l0 x5_1).f0.f0)) ∧ w'.cell? ⟨(ad205.add ((x5_1).toNat * 5)).block, (ad205.add ((x5_1).toNat * 5)).off + 1, none⟩ = some (.int .i64 ((rd_T48 l0 x5_1).f0.f1)) ∧ w'.cell? ⟨(ad205.add ((x5_1).toNat * 5)).block, (ad205.add ((x5_1).toNat * 5)).off + 2, none⟩ = some (.slice A205_2 ((rd_T48 l0 x5_1).f0.f2).length c205_2) ∧ w'.cell? ⟨(ad205.add ((x5_1).toNat * 5)).block, (ad205.add ((x5_1).toNat * 5)).off + 3, none⟩ = some (.int .i64 ((rd_T48 l0 x5_1).f1)) ∧ w'.cell? ⟨(ad205.add ((x5_1).toNat * 5)).block, (ad205.add ((x5_1).toNat * 5)).off + 4, none⟩ = some (.int .i64 ((rd_T48 l0 x5_1).f2)) ∧ w'.cell? (ad206.add ((x5_1).toNat * 5)) = some (.int .i64 ((rd_T48 l1 x5_1).f0.f0)) ∧ w'.cell? ⟨(ad206.add ((x5_1).toNat * 5)).block, (ad206.add ((x5_1).toNat * 5)).off + 1, none⟩ = some (.int .i64 ((rd_T48 l1 x5_1).f0.f1)) ∧ w'.cell? ⟨(ad206.add ((x5_1).toNat * 5)).block, (ad206.add ((x5_1).toNat * 5)).off + 2, none⟩ = some (.slice A206_2 ((rd_T48 l1 x5_1).f0.f2).length c206_2) ∧ w'.cell? ⟨(ad206.add ((x5_1).toNat * 5)).block, (ad206.add ((x5_1).toNat * 5)).off + 3, none⟩ = some (.int .i64 ((rd_T48 l1 x5_1).f1)) ∧ w'.cell? ⟨(ad206.add ((x5_1).toNat * 5)).block, (ad206.add ((x5_1).toNat * 5)).off + 4, none⟩ = some (.int .i64 ((rd_T48 l1 x5_1).f2)) ∧ w'.cell? (ad205.add ((x5_1).toNat * 5)) = some (.int .i64 ((rd_T48 l0 x5_1).f0.f0)) ∧ w'.cell? ⟨(ad205.add ((x5_1).toNat * 5)).block, (ad205.add ((x5_1).toNat * 5)).off + 1, none⟩ = some (.int .i64 ((rd_T48 l0 x5_1).f0.f1)) ∧ w'.cell? ⟨(ad205.add ((x5_1).toNat * 5)).block, (ad205.add ((x5_1).toNat * 5)).off + 2, none⟩ = some (.slice A205_2 ((rd_T48 l0 x5_1).f0.f2).length c205_2) ∧ w'.cell? ⟨(ad205.add ((x5_1).toNat * 5)).block, (ad205.add ((x5_1).toNat * 5)).off + 3, none⟩ = some (.int .i64 ((rd_T48 l0 x5_1).f1)) ∧ w'.cell? ⟨(ad205.add ((x5_1).toNat * 5)).block, (ad205.add ((x5_1).toNat * 5)).off + 4, none⟩ = some (.int .i64 ((rd_T48 l0 x5_1).f2)) ∧ w'.cell? (ad206.add ((x5_1).toNat * 5)) = some (.int .i64 ((rd_T48 l1 x5_1).f0.f0)) ∧ w'.cell? ⟨(ad206.add ((x5_1).toNat * 5)).block, (ad206.add ((x5_1).toNat * 5)).off + 1, none⟩ = some (.int .i64 ((rd_T48 l1 x5_1).f0.f1)) ∧ w'.cell? ⟨(ad206.add ((x5_1).toNat * 5)).block, (ad206.add ((x5_1).toNat * 5)).off + 2, none⟩ = some (.slice A206_2 ((rd_T48 l1 x5_1).f0.f2).length c206_2) ∧ w'.cell? ⟨(ad206.add ((x5_1).toNat * 5)).block, (ad206.add ((x5_1).toNat * 5)).off + 3, none⟩ = some (.int .i64 ((rd_T48 l1 x5_1).f1)) ∧ w'.cell? ⟨(ad206.add ((x5_1).toNat * 5)).block, (ad206.add ((x5_1).toNat * 5)).off + 4, none⟩ = some (.int .i64 ((rd_T48 l1 x5_1).f2))) [] (bv 38 0) incunableref15_SamePlaced.tab6 incunableref15_SamePlaced.bits6 ⟨(hcB HB.out hw205_0), (hcB HB.out hw205_1), (hcB HB.out hw205_2), (hcB HB.out hw205_3), (hcB HB.out hw205_4), (hcB HB.out hw206_0), (hcB HB.out hw206_1), (hcB HB.out hw206_2), (hcB HB.out hw206_3), (hcB HB.out hw206_4), (hcB HB.out hw207_0), (hcB HB.out hw207_1), (hcB HB.out hw207_2), (hcB HB.out hw207_3), (hcB HB.out hw207_4), (hcB HB.out hw208_0), (hcB HB.out hw208_1), (hcB HB.out hw208_2), (hcB HB.out hw208_3), (hcB HB.out hw208_4)⟩ (fun hHeld HT_ HW_ => ?_)
         generalize wr.drew = w15 at HB HR205_2 HR206_2 HR207_2 HR208_2 hx205_0 hx205_1 hx205_2 hx205_3 hx205_4 hx206_0 hx206_1 hx206_2 hx206_3 hx206_4 hx207_0 hx207_1 hx207_2 hx207_3 hx207_4 hx208_0 hx208_1 hx208_2 hx208_3 hx208_4 hHeld ⊢
         refine pu 0 17 (bv 38 1) HT_ rfl rfl ?_
         refine pu 1 18 (bv 38 3) HT_ rfl rfl ?_
         refine pu 2 19 (bv 38 7) HT_ rfl rfl ?_
         refine pu 3 20 (bv 38 15) HT_ rfl rfl ?_
         refine pu 5 22 (bv 38 47) HT_ rfl rfl ?_
         refine pu 6 23 (bv 38 111) HT_ rfl rfl ?_
         refine pu 7 24 (bv 38 239) HT_ rfl rfl ?_
         refine pu 8 25 (bv 38 495) HT_ rfl rfl ?_
         refine tk 4 21 (bv 38 511) HT_ HW_ hHeld rfl rfl (by rintro w' ⟨s0, s1, s2, s3, s4, s5, s6, s7, s8, s9, s10, s11, s12, s13, s14, s15, s16, s17, s18, s19⟩; exact yl) ?_
         refine tk 9 26 (bv 38 1023) HT_ HW_ hHeld rfl rfl (by rintro w' ⟨s0, s1, s2, s3, s4, s5, s6, s7, s8, s9, s10, s11, s12, s13, s14, s15, s16, s17, s18, s19⟩; exact yl) ?_
         refine pu 10 27 (bv 38 2047) HT_ rfl rfl ?_
         refine pu 11 28 (bv 38 4095) HT_ rfl rfl ?_
         refine pu 12 29 (bv 38 8191) HT_ rfl rfl ?_
         refine pu 13 30 (bv 38 16383) HT_ rfl rfl ?_
         refine pu 14 31 (bv 38 32767) HT_ rfl rfl ?_
         refine pu 15 32 (bv 38 65535) HT_ rfl rfl ?_
         refine pu 17 34 (bv 38 196607) HT_ rfl rfl ?_
         refine pu 18 35 (bv 38 458751) HT_ rfl rfl ?_
         refine pu 19 36 (bv 38 983039) HT_ rfl rfl ?_
         refine pu 20 37 (bv 38 2031615) HT_ rfl rfl ?_
         refine tk 16 33 (bv 38 2097151) HT_ HW_ hHeld rfl rfl (by rintro w' ⟨s0, s1, s2, s3, s4, s5, s6, s7, s8, s9, s10, s11, s12, s13, s14, s15, s16, s17, s18, s19⟩; exact yl) ?_
         refine tk 21 38 (bv 38 4194303) HT_ HW_ hHeld rfl rfl (by rintro w' ⟨s0, s1, s2, s3, s4, s5, s6, s7, s8, s9, s10, s11, s12, s13, s14, s15, s16, s17, s18, s19⟩; exact yl) ?_
         refine pu 22 39 (bv 38 8388607) HT_ rfl rfl ?_
         refine pu 23 40 (bv 38 16777215) HT_ rfl rfl ?_
         refine pu 24 41 (bv 38 33554431) HT_ rfl rfl ?_
         refine pn 25 42 (bv 38 67108863) HT_ rfl rfl ?_
         refine pn 26 43 (bv 38 134217727) HT_ rfl rfl ?_
         refine pn 27 44 (bv 38 268435455) HT_ rfl rfl ?_
         refine pn 28 45 (bv 38 536870911) HT_ rfl rfl ?_
         refine pn 29 46 (bv 38 1073741823) HT_ rfl rfl ?_
         refine pn 30 47 (bv 38 2147483647) HT_ rfl rfl ?_
         refine pn 31 48 (bv 38 4294967295) HT_ rfl rfl ?_
         refine pn 32 49 (bv 38 8589934591) HT_ rfl rfl ?_
         refine pn 33 50 (bv 38 17179869183) HT_ rfl rfl ?_
         refine pn 34 51 (bv 38 34359738367) HT_ rfl rfl ?_
         refine pn 35 52 (bv 38 68719476735) HT_ rfl rfl ?_
         refine pn 36 53 (bv 38 137438953471) HT_ rfl rfl ?_
         refine pu 37 54 (bv 38 274877906943) HT_ rfl rfl ?_
         refine done_ (done_of HT_.out (by kernel_rfl)) ?_
         try go_wp2
         go_ret
         exact ⟨re, bl⟩
       ·rw [if_neg c7] at H
        have c7b0 := beq_eq_false_iff_ne.mpr c7
        have c7b1 := bne_iff_ne.mpr c7
        obtain rfl := Option.some.inj H
        try go_wp2
        have n_ := aE (below_drew1 HB.out)
        clear HB
        have HB := n_
        clear n_
        have p205 : 0 ≤ (x5_1 : Int) := dt
        have q205 : x5_1 < (l0.length : Int) := dt
        obtain ⟨ad205, A205_2, c205_2, e205, hx205_0, hx205_1, hx205_2, hx205_3, hx205_4, hl205_2, hi205_2⟩ := at_T48 HR0.out x5_1 p205 q205
        have hw205_4 := hx205_4
        have hw205_3 := hx205_3
        have hw205_2 := hx205_2
        have hw205_1 := hx205_1
        have hw205_0 := hx205_0
        cases e205
        replace hx205_0 := hcB HB.out hx205_0
        replace hx205_1 := hcB HB.out hx205_1
        replace hx205_2 := hcB HB.out hx205_2
        replace hx205_3 := hcB HB.out hx205_3
        replace hx205_4 := hcB HB.out hx205_4
        have HR205_2 := Aside0.mk hi205_2
        have HC205_2 := Aside0.mk hl205_2
        clear hi205_2 hl205_2
        replace p205 := eq_true p205
        replace q205 := eq_true q205
        have p206 : 0 ≤ (x5_1 : Int) := dt
        have q206 : x5_1 < (l1.length : Int) := dt
        obtain ⟨ad206, A206_2, c206_2, e206, hx206_0, hx206_1, hx206_2, hx206_3, hx206_4, hl206_2, hi206_2⟩ := at_T48 HR1.out x5_1 p206 q206
        have hw206_4 := hx206_4
        have hw206_3 := hx206_3
        have hw206_2 := hx206_2
        have hw206_1 := hx206_1
        have hw206_0 := hx206_0
        cases e206
        replace hx206_0 := hcB HB.out hx206_0
        replace hx206_1 := hcB HB.out hx206_1
        replace hx206_2 := hcB HB.out hx206_2
        replace hx206_3 := hcB HB.out hx206_3
        replace hx206_4 := hcB HB.out hx206_4
        have HR206_2 := Aside0.mk hi206_2
        have HC206_2 := Aside0.mk hl206_2
        clear hi206_2 hl206_2
        replace p206 := eq_true p206
        replace q206 := eq_true q206
        refine st 38 (fun w' => w'.cell? (ad205.add ((x5_1).toNat * 5)) = some (.int .i64 ((rd_T48 l0 x5_1).f0.f0)) ∧ w'.cell? ⟨(ad205.add ((x5_1).toNat * 5)).block, (ad205.add ((x5_1).toNat * 5)).off + 1, none⟩ = some (.int .i64 ((rd_T48 l0 x5_1).f0.f1)) ∧ w'.cell? ⟨(ad205.add ((x5_1).toNat * 5)).block, (ad205.add ((x5_1).toNat * 5)).off + 2, none⟩ = some (.slice A205_2 ((rd_T48 l0 x5_1).f0.f2).length c205_2) ∧ w'.cell? ⟨(ad205.add ((x5_1).toNat * 5)).block, (ad205.add ((x5_1).toNat * 5)).off + 3, none⟩ = some (.int .i64 ((rd_T48 l0 x5_1).f1)) ∧ w'.cell? ⟨(ad205.add ((x5_1).toNat * 5)).block, (ad205.add ((x5_1).toNat * 5)).off + 4, none⟩ = some (.int .i64 ((rd_T48 l0 x5_1).f2)) ∧ w'.cell? (ad206.add ((x5_1).toNat * 5)) = some (.int .i64 ((rd_T48 l1 x5_1).f0.f0)) ∧ w'.cell? ⟨(ad206.add ((x5_1).toNat * 5)).block, (ad206.add ((x5_1).toNat * 5)).off + 1, none⟩ = some (.int .i64 ((rd_T48 l1 x5_1).f0.f1)) ∧ w'.cell? ⟨(ad206.add ((x5_1).toNat * 5)).block, (ad206.add ((x5_1).toNat * 5)).off + 2, none⟩ = some (.slice A206_2 ((rd_T48 l1 x5_1).f0.f2).length c206_2) ∧ w'.cell? ⟨(ad206.add ((x5_1).toNat * 5)).block, (ad206.add ((x5_1).toNat * 5)).off + 3, none⟩ = some (.int .i64 ((rd_T48 l1 x5_1).f1)) ∧ w'.cell? ⟨(ad206.add ((x5_1).toNat * 5)).block, (ad206.add ((x5_1).toNat * 5)).off + 4, none⟩ = some (.int .i64 ((rd_T48 l1 x5_1).f2))) [] (bv 38 0) incunableref15_SamePlaced.tab6 incunableref15_SamePlaced.bits6 ⟨(hcB HB.out hw205_0), (hcB HB.out hw205_1), (hcB HB.out hw205_2), (hcB HB.out hw205_3), (hcB HB.out hw205_4), (hcB HB.out hw206_0), (hcB HB.out hw206_1), (hcB HB.out hw206_2), (hcB HB.out hw206_3), (hcB HB.out hw206_4)⟩ (fun hHeld HT_ HW_ => ?_)
        generalize wr.drew = w16 at HB HR205_2 HR206_2 hx205_0 hx205_1 hx205_2 hx205_3 hx205_4 hx206_0 hx206_1 hx206_2 hx206_3 hx206_4 hHeld ⊢
        refine pu 0 17 (bv 38 1) HT_ rfl rfl ?_
        refine pu 1 18 (bv 38 3) HT_ rfl rfl ?_
        refine pu 2 19 (bv 38 7) HT_ rfl rfl ?_
        refine pu 3 20 (bv 38 15) HT_ rfl rfl ?_
        refine pu 5 22 (bv 38 47) HT_ rfl rfl ?_
        refine pu 6 23 (bv 38 111) HT_ rfl rfl ?_
        refine pu 7 24 (bv 38 239) HT_ rfl rfl ?_
        refine pu 8 25 (bv 38 495) HT_ rfl rfl ?_
        refine tk 4 21 (bv 38 511) HT_ HW_ hHeld rfl rfl (by rintro w' ⟨s0, s1, s2, s3, s4, s5, s6, s7, s8, s9⟩; exact yl) ?_
        refine tk 9 26 (bv 38 1023) HT_ HW_ hHeld rfl rfl (by rintro w' ⟨s0, s1, s2, s3, s4, s5, s6, s7, s8, s9⟩; exact yl) ?_
        refine pu 10 27 (bv 38 2047) HT_ rfl rfl ?_
        refine pu 11 28 (bv 38 4095) HT_ rfl rfl ?_
        refine pn 12 29 (bv 38 8191) HT_ rfl rfl ?_
        refine pn 13 30 (bv 38 16383) HT_ rfl rfl ?_
        refine pn 14 31 (bv 38 32767) HT_ rfl rfl ?_
        refine pn 15 32 (bv 38 65535) HT_ rfl rfl ?_
        refine pn 16 33 (bv 38 131071) HT_ rfl rfl ?_
        refine pn 17 34 (bv 38 262143) HT_ rfl rfl ?_
        refine pn 18 35 (bv 38 524287) HT_ rfl rfl ?_
        refine pn 19 36 (bv 38 1048575) HT_ rfl rfl ?_
        refine pn 20 37 (bv 38 2097151) HT_ rfl rfl ?_
        refine pn 21 38 (bv 38 4194303) HT_ rfl rfl ?_
        refine pn 22 39 (bv 38 8388607) HT_ rfl rfl ?_
        refine pu 23 40 (bv 38 16777215) HT_ rfl rfl ?_
        refine pu 24 41 (bv 38 33554431) HT_ rfl rfl ?_
        refine pn 25 42 (bv 38 67108863) HT_ rfl rfl ?_
        refine pn 26 43 (bv 38 134217727) HT_ rfl rfl ?_
        refine pn 27 44 (bv 38 268435455) HT_ rfl rfl ?_
        refine pn 28 45 (bv 38 536870911) HT_ rfl rfl ?_
        refine pn 29 46 (bv 38 1073741823) HT_ rfl rfl ?_
        refine pn 30 47 (bv 38 2147483647) HT_ rfl rfl ?_
        refine pn 31 48 (bv 38 4294967295) HT_ rfl rfl ?_
        refine pn 32 49 (bv 38 8589934591) HT_ rfl rfl ?_
        refine pn 33 50 (bv 38 17179869183) HT_ rfl rfl ?_
        refine pn 34 51 (bv 38 34359738367) HT_ rfl rfl ?_
        refine pn 35 52 (bv 38 68719476735) HT_ rfl rfl ?_
        refine pn 36 53 (bv 38 137438953471) HT_ rfl rfl ?_
        refine pu 37 54 (bv 38 274877906943) HT_ rfl rfl ?_
        refine done_ (done_of HT_.out (by kernel_rfl)) ?_
        try go_wp2
        go_ret
        exact ⟨re, bl⟩
      ·rw [if_neg c6] at H
       exact absurd H (by simp)
     ·rw [if_neg c5] at H
      exact absurd H (by simp)
    ·rw [if_neg c4] at H
     have c4b0 := decide_eq_false c4
     clear c4
     obtain rfl := Option.some.inj H
     go_wp2
     go_ret
     exact ⟨re, bl⟩
 ·rw [if_neg c3] at H
  have c3b0 := beq_eq_false_iff_ne.mpr c3
  have c3b1 := bne_iff_ne.mpr c3
  have c3b2 : (l0.length == l1.length) = false := by first | simpa using c3 | (simp at c3 ⊢; omega)
  obtain rfl := Option.some.inj H
  go_enter Try.func23, Try.ntmps23
  go_wp2
  go_ret
  exact ⟨re, bl⟩

end Go.Proofs.Ytaflekobfbgedaa.PShapePieces
