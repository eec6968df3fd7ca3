-- printed (wip/tools/myprint.py)
import Derived.Test.YtnnbfkmmjclhaaaPScanSpecksx0
import Derived.Test.YtnnbfkmmjclhaaaPScanSpecksx11
namespace Go.Proofs.Ytnnbfkmmjclhaaa.PScanSpecks
open Go.RowKit Go.Proofs.YtnnbfkmmjclhaaaW.PrintWords Go.Proofs.YtnnbfkmmjclhaaaW.PrintLast Go.Proofs.YtnnbfkmmjclhaaaW.PrintMore
attribute [local go_sem] max2_int min2_int max_two min_two max_three min_three max_four min_four
set_option linter.unusedVariables false
set_option linter.unusedSimpArgs false
def incunableref15_SamePlaced.l0 : Nat → List (S35) → List (S35) → Int → Option (Bool)
 | 0, _, _, _ => none
 | k + 1, x0, x1, x5 => if x5 < (x0.length : Int) then (if 0 ≤ x5 then (if x5 < (x1.length : Int) then (if ((rd_T35 x0 x5).f1) = ((rd_T35 x1 x5).f1) then (if ((rd_T35 x0 x5).f2) = ((rd_T35 x1 x5).f2) then ((incunableref05_Same.f ((rd_T35 x0 x5).f0.f0) ((rd_T35 x0 x5).f0.f1) ((rd_T35 x0 x5).f0.f2) ((rd_T35 x1 x5).f0.f0) ((rd_T35 x1 x5).f0.f1) ((rd_T35 x1 x5).f0.f2)).bind fun t418 => (if t418 = true then (incunableref15_SamePlaced.l0 k x0 x1 (wrap64 (x5 + 1))) else (some false))) else (some false)) else (some false)) else (none)) else (none)) else (some true)
def incunableref15_SamePlaced.f (k : Nat) (l0 : List (S35)) (l1 : List (S35)) : Option (Bool) := if (l0.length : Int) = (l1.length : Int) then (incunableref15_SamePlaced.l0 k l0 l1 0) else (some false)
theorem incunableref15_SamePlaced.mono_l : ∀ k, (∀ y0 y1 y2, LeO (incunableref15_SamePlaced.l0 k y0 y1 y2) (incunableref15_SamePlaced.l0 (k + 1) y0 y1 y2))
 | 0 => fun _ _ _ r h => by simp [incunableref15_SamePlaced.l0] at h
 | k + 1 => by
  have ih0 := incunableref15_SamePlaced.mono_l k
  ·intro y0 y1 y2
   unfold incunableref15_SamePlaced.l0
   repeat' first
   | (with_reducible exact ih0 _ _ _)
   | (with_reducible first | exact LeO.refl _ | exact LeO.none _ | refine LeO.ite ?_ ?_ | refine LeO.bind ?_ (fun _ => ?_))
theorem incunableref15_SamePlaced.mono : ∀ a0 a1 k, LeO (incunableref15_SamePlaced.f k a0 a1) (incunableref15_SamePlaced.f (k + 1) a0 a1) := by
 intro a0 a1 k
 have ih0 := incunableref15_SamePlaced.mono_l k
 unfold incunableref15_SamePlaced.f
 repeat' first
   | (with_reducible exact ih0 _ _ _)
   | (with_reducible first | exact LeO.refl _ | exact LeO.none _ | refine LeO.ite ?_ ?_ | refine LeO.bind ?_ (fun _ => ?_))
def incunableref15_SamePlaced.T6 : Bool × List (List Nat × List Nat) := (true, [([], []), ([], []), ([0, 1], [0, 1]), ([2], [2]), ([3], [3]), ([], []), ([], []), ([5, 6], [5, 6]), ([7], [7]), ([8], [8]), ([4, 9], [4, 9]), ([10], [10]), ([11], [11]), ([11], [11]), ([12, 13, 11], [11, 12, 13]), ([14, 11], [11, 14]), ([15, 11], [11, 15]), ([11], [11]), ([11], [11]), ([17, 18, 11], [11, 17, 18]), ([19, 11], [11, 19]), ([20, 11], [11, 20]), ([16, 21, 11], [11, 16, 21]), ([11, 22], [11, 22]), ([23, 11], [23]), ([24], [24]), ([24], [24]), ([25, 26, 24], [24, 25, 26]), ([27, 24], [24, 27]), ([28, 24], [24, 28]), ([24], [24]), ([24], [24]), ([30, 31, 24], [24, 30, 31]), ([32, 24], [24, 32]), ([33, 24], [24, 33]), ([29, 34, 24, 24], [24, 29, 34]), ([35, 24], [24, 35]), ([24, 36], [24, 36])])
def incunableref15_SamePlaced.B6 : List Nat := [0, 0, 3, 7, 15, 0, 0, 96, 224, 480, 1023, 2047, 4095, 4095, 16383, 32767, 65535, 4095, 4095, 397311, 921599, 1970175, 4194303, 8388607, 16777215, 33554431, 33554431, 134217727, 268435455, 536870911, 33554431, 33554431, 3254779903, 7549747199, 16139681791, 34359738367, 68719476735, 137438953471]
theorem incunableref15_SamePlaced.tab6 : rtab .any (opsOf Try.f10 6) = incunableref15_SamePlaced.T6 := by kernel_rfl
theorem incunableref15_SamePlaced.bits6 : waitsOk incunableref15_SamePlaced.T6.2 incunableref15_SamePlaced.B6 = true := by kernel_rfl
set_option maxHeartbeats 8000000 in
set_option maxRecDepth 100000 in
theorem incunableref15_SamePlaced.calls (k : Nat) (A0 : Option Addr) (c0 : Nat) (l0 : List (S35)) (A1 : Option Addr) (c1 : Nat) (l1 : List (S35)) (r : Bool) (w : World) (hr0 : Kd.C k35 w A0 l0.length l0) (hc0 : l0.length ≤ c0) (hr1 : Kd.C k35 w A1 l1.length l1) (hc1 : l1.length ≤ c1) (h : incunableref15_SamePlaced.f k l0 l1 = some r) :
  Calls Try.prog 10 #[.slice A0 l0.length c0, .slice A1 l1.length c1] w fun e w' => e = .returned (.bool r) ∧ Below w.heap.size w w' := by
 have hu24 := Try.underlying24
 have HR0 := Aside0.mk hr0
 have HC0 := Aside0.mk hc0
 clear hr0 hc0
 have HR1 := Aside0.mk hr1
 have HC1 := Aside0.mk hc1
 clear hr1 hc1
 have HB := Aside0.mk (Below.refl w.heap.size w)
 have H := h
 unfold incunableref15_SamePlaced.f at H
 clear h
 by_cases c3 : (l0.length : Int) = (l1.length : Int)
 ·rw [if_pos c3] at H
  have c3b0 := beq_iff_eq.mpr c3
  have c3b1 := bne_eq_false_iff_eq.mpr c3
  have c3b2 : (l0.length == l1.length) = true := by first | simpa using c3 | (simp at c3 ⊢; omega)
  clear c3
  have H' := Aside0.mk H
  clear H
  go_enter Try.func10, Try.ntmps10
  go_wp2
  go_loopg [5] k (fun kq v5 w' => ∃ (x5_1 : Int), v5 = .int .i64 x5_1 ∧ Aside0 (incunableref15_SamePlaced.l0 kq l0 l1 x5_1 = some r) ∧ Aside0 (kq ≤ k) ∧ Aside0 (Below w.heap.size w w'))
  case atStart => exact ⟨(0), rq, H', ⟨Nat.le_refl _⟩, ⟨bl⟩⟩
  case round =>
   clear H'
   try clear c1
   obtain ⟨x5_1, rfl, HA, HK1, HB⟩ := hrel
   cases gk with
   | zero => exact absurd HA.out (by simp [incunableref15_SamePlaced.l0])
   | succ k1 =>
    have H := HA.out
    clear HA
    simp only [incunableref15_SamePlaced.l0] at H
    rcases iL H with H1 | H1 <;> clear H <;> obtain ⟨H, c4b0⟩ := H1
    ·by_cases c5 : 0 ≤ x5_1
     ·rw [if_pos c5] at H
      have c5b0 := decide_eq_true c5
      clear c5
      by_cases c6 : x5_1 < (l1.length : Int)
      ·rw [if_pos c6] at H
       have c6b0 := decide_eq_true c6
       clear c6
       rcases iE H with H1 | H1 <;> clear H <;> obtain ⟨H, c7b0, c7b1, c7⟩ := H1
       ·rcases iE H with H1 | H1 <;> clear H <;> obtain ⟨H, c8b0, c8b1, c8⟩ := H1
        ·obtain ⟨t418, A9, H⟩ := oB H
         try dsimp only at H
         by_cases c10 : t418 = true
         ·subst c10
          rw [if_pos rfl] at H
          have H' := Aside0.mk H
          clear H
          try go_wp2
          have n_ := aE (below_drew1 HB.out)
          clear HB
          have HB := n_
          clear n_
          have p412 : 0 ≤ (x5_1 : Int) := dt
          have q412 : x5_1 < (l0.length : Int) := dt
          obtain ⟨ad412, A412_2, c412_2, e412, hx412_0, hx412_1, hx412_2, hx412_3, hx412_4, hl412_2, hi412_2⟩ := at_T35 HR0.out x5_1 p412 q412
          have hw412_4 := hx412_4
          have hw412_3 := hx412_3
          have hw412_2 := hx412_2
          have hw412_1 := hx412_1
          have hw412_0 := hx412_0
          cases e412
          replace hx412_0 := hcB HB.out hx412_0
          replace hx412_1 := hcB HB.out hx412_1
          replace hx412_2 := hcB HB.out hx412_2
          replace hx412_3 := hcB HB.out hx412_3
          replace hx412_4 := hcB HB.out hx412_4
          have HR412_2 := Aside0.mk hi412_2
          have HC412_2 := Aside0.mk hl412_2
          clear hi412_2 hl412_2
          replace p412 := eq_true p412
          replace q412 := eq_true q412
          have p413 : 0 ≤ (x5_1 : Int) := dt
          have q413 : x5_1 < (l1.length : Int) := dt
          obtain ⟨ad413, A413_2, c413_2, e413, hx413_0, hx413_1, hx413_2, hx413_3, hx413_4, hl413_2, hi413_2⟩ := at_T35 HR1.out x5_1 p413 q413
          have hw413_4 := hx413_4
          have hw413_3 := hx413_3
          have hw413_2 := hx413_2
          have hw413_1 := hx413_1
          have hw413_0 := hx413_0
          cases e413
          replace hx413_0 := hcB HB.out hx413_0
          replace hx413_1 := hcB HB.out hx413_1
          replace hx413_2 := hcB HB.out hx413_2
          replace hx413_3 := hcB HB.out hx413_3
          replace hx413_4 := hcB HB.out hx413_4
          have HR413_2 := Aside0.mk hi413_2
          have HC413_2 := Aside0.mk hl413_2
          clear hi413_2 hl413_2
          replace p413 := eq_true p413
          replace q413 := eq_true q413
          have p414 : 0 ≤ (x5_1 : Int) := dt
          have q414 : x5_1 < (l0.length : Int) := dt
          obtain ⟨ad414, A414_2, c414_2, e414, hx414_0, hx414_1, hx414_2, hx414_3, hx414_4, hl414_2, hi414_2⟩ := at_T35 HR0.out x5_1 p414 q414
          have hw414_4 := hx414_4
          have hw414_3 := hx414_3
          have hw414_2 := hx414_2
          have hw414_1 := hx414_1
          have hw414_0 := hx414_0
          obtain rfl : ad412 = ad414 := (by injection e414)
          replace hx414_0 := hcB HB.out hx414_0
          replace hx414_1 := hcB HB.out hx414_1
          replace hx414_2 := hcB HB.out hx414_2
          replace hx414_3 := hcB HB.out hx414_3
          replace hx414_4 := hcB HB.out hx414_4
          have HR414_2 := Aside0.mk hi414_2
          have HC414_2 := Aside0.mk hl414_2
          clear hi414_2 hl414_2
          replace p414 := eq_true p414
          replace q414 := eq_true q414
          have ea_ := Option.some.inj (hx412_2.symm.trans hx414_2)
          injection ea_ with ea_ en_ ec_
          subst ea_
          subst ec_
          clear en_
          have p415 : 0 ≤ (x5_1 : Int) := dt
          have q415 : x5_1 < (l1.length : Int) := dt
          obtain ⟨ad415, A415_2, c415_2, e415, hx415_0, hx415_1, hx415_2, hx415_3, hx415_4, hl415_2, hi415_2⟩ := at_T35 HR1.out x5_1 p415 q415
          have hw415_4 := hx415_4
          have hw415_3 := hx415_3
          have hw415_2 := hx415_2
          have hw415_1 := hx415_1
          have hw415_0 := hx415_0
          obtain rfl : ad413 = ad415 := (by injection e415)
          replace hx415_0 := hcB HB.out hx415_0
          replace hx415_1 := hcB HB.out hx415_1
          replace hx415_2 := hcB HB.out hx415_2
          replace hx415_3 := hcB HB.out hx415_3
          replace hx415_4 := hcB HB.out hx415_4
          have HR415_2 := Aside0.mk hi415_2
          have HC415_2 := Aside0.mk hl415_2
          clear hi415_2 hl415_2
          replace p415 := eq_true p415
          replace q415 := eq_true q415
          have ea_ := Option.some.inj (hx413_2.symm.trans hx415_2)
          injection ea_ with ea_ en_ ec_
          subst ea_
          subst ec_
          clear en_
          have p416 : 0 ≤ (x5_1 : Int) := dt
          have q416 : x5_1 < (l0.length : Int) := dt
          obtain ⟨ad416, A416_2, c416_2, e416, hx416_0, hx416_1, hx416_2, hx416_3, hx416_4, hl416_2, hi416_2⟩ := at_T35 HR0.out x5_1 p416 q416
          have hw416_4 := hx416_4
          have hw416_3 := hx416_3
          have hw416_2 := hx416_2
          have hw416_1 := hx416_1
          have hw416_0 := hx416_0
          obtain rfl : ad412 = ad416 := (by injection e416)
          replace hx416_0 := hcB HB.out hx416_0
          replace hx416_1 := hcB HB.out hx416_1
          replace hx416_2 := hcB HB.out hx416_2
          replace hx416_3 := hcB HB.out hx416_3
          replace hx416_4 := hcB HB.out hx416_4
          have HR416_2 := Aside0.mk hi416_2
          have HC416_2 := Aside0.mk hl416_2
          clear hi416_2 hl416_2
          replace p416 := eq_true p416
          replace q416 := eq_true q416
          have ea_ := Option.some.inj (hx412_2.symm.trans hx416_2)
          injection ea_ with ea_ en_ ec_
          subst ea_
          subst ec_
          clear en_
          have p417 : 0 ≤ (x5_1 : Int) := dt
          have q417 : x5_1 < (l1.length : Int) := dt
          obtain ⟨ad417, A417_2, c417_2, e417, hx417_0, hx417_1, hx417_2, hx417_3, hx417_4, hl417_2, hi417_2⟩ := at_T35 HR1.out x5_1 p417 q417
          have hw417_4 := hx417_4
          have hw417_3 := hx417_3
          have hw417_2 := hx417_2
          have hw417_1 := hx417_1
          have hw417_0 := hx417_0
          obtain rfl : ad413 = ad417 := (by injection e417)
          replace hx417_0 := hcB HB.out hx417_0
          replace hx417_1 := hcB HB.out hx417_1
          replace hx417_2 := hcB HB.out hx417_2
          replace hx417_3 := hcB HB.out hx417_3
          replace hx417_4 := hcB HB.out hx417_4
          have HR417_2 := Aside0.mk hi417_2
          have HC417_2 := Aside0.mk hl417_2
          clear hi417_2 hl417_2
          replace p417 := eq_true p417
          replace q417 := eq_true q417
          have ea_ := Option.some.inj (hx413_2.symm.trans hx417_2)
          injection ea_ with ea_ en_ ec_
          subst ea_
          subst ec_
          clear en_
          refine st 38 (fun w' => w'.cell? (ad412.add ((x5_1).toNat * 5)) = some (.int .i64 ((rd_T35 l0 x5_1).f0.f0)) ∧ w'.cell? ⟨(ad412.add ((x5_1).toNat * 5)).block, (ad412.add ((x5_1).toNat * 5)).off + 1, none⟩ = some (.int .i64 ((rd_T35 l0 x5_1).f0.f1)) ∧ w'.cell? ⟨(ad412.add ((x5_1).toNat * 5)).block, (ad412.add ((x5_1).toNat * 5)).off + 2, none⟩ = some (.slice A412_2 ((rd_T35 l0 x5_1).f0.f2).length c412_2) ∧ w'.cell? ⟨(ad412.add ((x5_1).toNat * 5)).block, (ad412.add ((x5_1).toNat * 5)).off + 3, none⟩ = some (.int .i64 ((rd_T35 l0 x5_1).f1)) ∧ w'.cell? ⟨(ad412.add ((x5_1).toNat * 5)).block, (ad412.add ((x5_1).toNat * 5)).off + 4, none⟩ = some (.int .i64 ((rd_T35 l0 x5_1).f2)) ∧ w'.cell? (ad413.add ((x5_1).toNat * 5)) = some (.int .i64 ((rd_T35 l1 x5_1).f0.f0)) ∧ w'.cell? ⟨(ad413.add ((x5_1).toNat * 5)).block, (ad413.add ((x5_1).toNat * 5)).off + 1, none⟩ = some (.int .i64 ((rd_T35 l1 x5_1).f0.f1)) ∧ w'.cell? ⟨(ad413.add ((x5_1).toNat * 5)).block, (ad413.add ((x5_1).toNat * 5)).off + 2, none⟩ = some (.slice A413_2 ((rd_T35 l1 x5_1).f0.f2).length c413_2) ∧ w'.cell? ⟨(ad413.add ((x5_1).toNat * 5)).block, (ad413.add ((x5_1).toNat * 5)).off + 3, none⟩ = some (.int .i64 ((rd_T35 l1 x5_1).f1)) ∧ w'.cell? ⟨(ad413.add ((x5_1).toNat * 5)).block, (ad413.add ((x5_1).toNat * 5)).off + 4, none⟩ = some (.int .i64 ((rd_T35 l1 x5_1).f2)) ∧ w'.cell? (ad412.add ((x5_1).toNat * 5)) = some (.int .i64 ((rd_T35 l0 x5_1).f0.f0)) ∧ w'.cell? ⟨(ad412.add ((x5_1).toNat * 5)).block, (ad412.add ((x5_1).toNat * 5)).off + 1, none⟩ = some (.int .i64 ((rd_T35 l0 x5_1).f0.f1)) ∧ w'.cell? ⟨(ad412.add ((x5_1).toNat * 5)).block, (ad412.add ((x5_1).toNat * 5)).off + 2, none⟩ = some (.slice A412_2 ((rd_T35 l0 x5_1).f0.f2).length c412_2) ∧ w'.cell? ⟨(ad412.add ((x5_1).toNat * 5)).block, (ad412.add ((x5_1).toNat * 5)).off + 3, none⟩ = some (.int .i64 ((rd_T35 l0 x5_1).f1)) ∧ w'.cell? ⟨(ad412.add ((x5_1).toNat * 5)).block, (ad412.add ((x5_1).toNat * 5)).off + 4, none⟩ = some (.int .i64 ((rd_T35 l0 x5_1).f2)) ∧ w'.cell? (ad413.add ((x5_1).toNat * 5)) = some (.int .i64 ((rd_T35 l1 x5_1).f0.f0)) ∧ w'.cell? ⟨(ad413.add ((x5_1).toNat * 5)).block, (ad413.add ((x5_1).toNat * 5)).off + 1, none⟩ = some (.int .i64 ((rd_T35 l1 x5_1).f0.f1)) ∧ w'.cell? ⟨(ad413.add ((x5_1).toNat * 5)).block, (ad413.add ((x5_1).toNat * 5)).off + 2, none⟩ = some (.slice A413_2 ((rd_T35 l1 x5_1).f0.f2).length c413_2) ∧ w'.cell? ⟨(ad413.add ((x5_1).toNat * 5)).block, (ad413.add ((x5_1).toNat * 5)).off + 3, none⟩ = some (.int .i64 ((rd_T35 l1 x5_1).f1)) ∧ w'.cell? ⟨(ad413.add ((x5_1).toNat * 5)).block, (ad413.add ((x5_1).toNat * 5)).off + 4, none⟩ = some (.int .i64 ((rd_T35 l1 x5_1).f2)) ∧ w'.cell? (ad412.add ((x5_1).toNat * 5)) = some (.int .i64 ((rd_T35 l0 x5_1).f0.f0)) ∧ w'.cell? ⟨(ad412.add ((x5_1).toNat * 5)).block, (ad412.add ((x5_1).toNat * 5)).off + 1, none⟩ = some (.int .i64 ((rd_T35 l0 x5_1).f0.f1)) ∧ w'.cell? ⟨(ad412.add ((x5_1).toNat * 5)).block, (ad412.add ((x5_1).toNat * 5)).off + 2, none⟩ = some (.slice A412_2 ((rd_T35 l0 x5_1).f0.f2).length c412_2) ∧ w'.cell? ⟨(ad412.add ((x5_1).toNat * 5)).block, (ad412.add ((x5_1).toNat * 5)).off + 3, none⟩ = some (.int .i64 ((rd_T35 l0 x5_1).f1)) ∧ w'.cell? ⟨(ad412.add ((x5_1).toNat * 5)).block, (ad412.add ((x5_1).toNat * 5)).off + 4, none⟩ = some (.int .i64 ((rd_T35 l0 x5_1).f2)) ∧ w'.cell? (ad413.add ((x5_1).toNat * 5)) = some (.int .i64 ((rd_T35 l1 x5_1).f0.f0)) ∧ w'.cell? ⟨(ad413.add ((x5_1).toNat * 5)).block, (ad413.add ((x5_1).toNat * 5)).off + 1, none⟩ = some (.int .i64 ((rd_T35 l1 x5_1).f0.f1)) ∧ w'.cell? ⟨(ad413.add ((x5_1).toNat * 5)).block, (ad413.add ((x5_1).toNat * 5)).off + 2, none⟩ = some (.slice A413_2 ((rd_T35 l1 x5_1).f0.f2).length c413_2) ∧ w'.cell? ⟨(ad413.add ((x5_1).toNat * 5)).block, (ad413.add ((x5_1).toNat * 5)).off + 3, none⟩ = some (.int .i64 ((rd_T35 l1 x5_1).f1)) ∧ w'.cell? ⟨(ad413.add ((x5_1).toNat * 5)).block, (ad413.add ((x5_1).toNat * 5)).off + 4, none⟩ = some (.int .i64 ((rd_T35 l1 x5_1).f2))) [] (bv 38 0) incunableref15_SamePlaced.tab6 incunableref15_SamePlaced.bits6 ⟨(hcB HB.out hw412_0), (hcB HB.out hw412_1), (hcB HB.out hw412_2), (hcB HB.out hw412_3), (hcB HB.out hw412_4), (hcB HB.out hw413_0), (hcB HB.out hw413_1), (hcB HB.out hw413_2), (hcB HB.out hw413_3), (hcB HB.out hw413_4), (hcB HB.out hw414_0), (hcB HB.out hw414_1), (hcB HB.out hw414_2), (hcB HB.out hw414_3), (hcB HB.out hw414_4), (hcB HB.out hw415_0), (hcB HB.out hw415_1), (hcB HB.out hw415_2), (hcB HB.out hw415_3), (hcB HB.out hw415_4), (hcB HB.out hw416_0), (hcB HB.out hw416_1), (hcB HB.out hw416_2), (hcB HB.out hw416_3), (hcB HB.out hw416_4), (hcB HB.out hw417_0), (hcB HB.out hw417_1), (hcB HB.out hw417_2), (hcB HB.out hw417_3), (hcB HB.out hw417_4)⟩ (fun hHeld HT_ HW_ => ?_)
          generalize wr.drew = w11 at HB HR412_2 HR413_2 HR414_2 HR415_2 HR416_2 HR417_2 hx412_0 hx412_1 hx412_2 hx412_3 hx412_4 hx413_0 hx413_1 hx413_2 hx413_3 hx413_4 hx414_0 hx414_1 hx414_2 hx414_3 hx414_4 hx415_0 hx415_1 hx415_2 hx415_3 hx415_4 hx416_0 hx416_1 hx416_2 hx416_3 hx416_4 hx417_0 hx417_1 hx417_2 hx417_3 hx417_4 hHeld ⊢
          refine pu 0 17 (bv 38 1) HT_ rfl rfl ?_
          refine pu 1 18 (bv 38 3) HT_ rfl rfl ?_
          refine pu 2 19 (bv 38 7) HT_ rfl rfl ?_
          refine pu 3 20 (bv 38 15) HT_ rfl rfl ?_
          refine pu 5 22 (bv 38 47) HT_ rfl rfl ?_
          refine pu 6 23 (bv 38 111) HT_ rfl rfl ?_
          refine pu 7 24 (bv 38 239) HT_ rfl rfl ?_
          refine pu 8 25 (bv 38 495) HT_ rfl rfl ?_
          refine tk 4 21 (bv 38 511) HT_ HW_ hHeld rfl rfl (by rintro w' ⟨s0, s1, s2, s3, s4, s5, s6, s7, s8, s9, s10, s11, s12, s13, s14, s15, s16, s17, s18, s19, s20, s21, s22, s23, s24, s25, s26, s27, s28, s29⟩; exact yl) ?_
          refine tk 9 26 (bv 38 1023) HT_ HW_ hHeld rfl rfl (by rintro w' ⟨s0, s1, s2, s3, s4, s5, s6, s7, s8, s9, s10, s11, s12, s13, s14, s15, s16, s17, s18, s19, s20, s21, s22, s23, s24, s25, s26, s27, s28, s29⟩; exact yl) ?_
          refine pu 10 27 (bv 38 2047) HT_ rfl rfl ?_
          refine pu 11 28 (bv 38 4095) HT_ rfl rfl ?_
          refine pu 12 29 (bv 38 8191) HT_ rfl rfl ?_
          refine pu 13 30 (bv 38 16383) HT_ rfl rfl ?_
          refine pu 14 31 (bv 38 32767) HT_ rfl rfl ?_
          refine pu 15 32 (bv 38 65535) HT_ rfl rfl ?_
          refine pu 17 34 (bv 38 196607) HT_ rfl rfl ?_
          refine pu 18 35 (bv 38 458751) HT_ rfl rfl ?_
          refine pu 19 36 (bv 38 983039) HT_ rfl rfl ?_
          refine pu 20 37 (bv 38 2031615) HT_ rfl rfl ?_
          refine tk 16 33 (bv 38 2097151) HT_ HW_ hHeld rfl rfl (by rintro w' ⟨s0, s1, s2, s3, s4, s5, s6, s7, s8, s9, s10, s11, s12, s13, s14, s15, s16, s17, s18, s19, s20, s21, s22, s23, s24, s25, s26, s27, s28, s29⟩; exact yl) ?_
          refine tk 21 38 (bv 38 4194303) HT_ HW_ hHeld rfl rfl (by rintro w' ⟨s0, s1, s2, s3, s4, s5, s6, s7, s8, s9, s10, s11, s12, s13, s14, s15, s16, s17, s18, s19, s20, s21, s22, s23, s24, s25, s26, s27, s28, s29⟩; exact yl) ?_
          refine pu 22 39 (bv 38 8388607) HT_ rfl rfl ?_
          refine pu 23 40 (bv 38 16777215) HT_ rfl rfl ?_
          refine pu 24 41 (bv 38 33554431) HT_ rfl rfl ?_
          refine pu 25 42 (bv 38 67108863) HT_ rfl rfl ?_
          refine pu 26 43 (bv 38 134217727) HT_ rfl rfl ?_
          refine pu 27 44 (bv 38 268435455) HT_ rfl rfl ?_
          refine pu 28 45 (bv 38 536870911) HT_ rfl rfl ?_
          refine pu 30 47 (bv 38 1610612735) HT_ rfl rfl ?_
          refine pu 31 48 (bv 38 3758096383) HT_ rfl rfl ?_
          refine pu 32 49 (bv 38 8053063679) HT_ rfl rfl ?_
          refine pu 33 50 (bv 38 16642998271) HT_ rfl rfl ?_
          refine tk 29 46 (bv 38 17179869183) HT_ HW_ hHeld rfl rfl (by rintro w' ⟨s0, s1, s2, s3, s4, s5, s6, s7, s8, s9, s10, s11, s12, s13, s14, s15, s16, s17, s18, s19, s20, s21, s22, s23, s24, s25, s26, s27, s28, s29⟩; exact yl) ?_
          refine tk 34 51 (bv 38 34359738367) HT_ HW_ hHeld rfl rfl (by rintro w' ⟨s0, s1, s2, s3, s4, s5, s6, s7, s8, s9, s10, s11, s12, s13, s14, s15, s16, s17, s18, s19, s20, s21, s22, s23, s24, s25, s26, s27, s28, s29⟩; exact yl) ?_
          refine one_ (i := 35) (N := some 52) (bv 38 68719476735) rfl rfl (one_of HT_.out (by kernel_rfl)) (by decide) (fun K hK => ?_)
          refine gK Try.func7 rfl #[.agg #[.int .i64 ((rd_T35 l0 x5_1).f0.f0), .int .i64 ((rd_T35 l0 x5_1).f0.f1), .slice A412_2 ((rd_T35 l0 x5_1).f0.f2).length c412_2], .agg #[.int .i64 ((rd_T35 l1 x5_1).f0.f0), .int .i64 ((rd_T35 l1 x5_1).f0.f1), .slice A413_2 ((rd_T35 l1 x5_1).f0.f2).length c413_2]] rfl rfl ?_
          with_reducible refine (incunableref05_Same.calls ((rd_T35 l0 x5_1).f0.f0) ((rd_T35 l0 x5_1).f0.f1) _ _ ((rd_T35 l0 x5_1).f0.f2) ((rd_T35 l1 x5_1).f0.f0) ((rd_T35 l1 x5_1).f0.f1) _ _ ((rd_T35 l1 x5_1).f0.f2) true _ ?side1 ?side2 ?side3 ?side4 A9.out).mono ?_
          (case side1 => exact cU (Kd.C_below HR416_2.out HB.out))
          (case side2 => exact HC416_2.out)
          (case side3 => exact cU (Kd.C_below HR417_2.out HB.out))
          (case side4 => exact HC417_2.out)
          rintro e w12 ⟨rfl, hb⟩
          refine ⟨_, rfl, ?_⟩
          have n_ := aE (bs hb)
          clear HB
          have HB := n_
          clear n_
          (try clear hb)
          (try clear hb2)
          (try clear hk)
          (try clear hi)
          refine hK.out _ _ ⟨(hcB HB.out hw412_0), (hcB HB.out hw412_1), (hcB HB.out hw412_2), (hcB HB.out hw412_3), (hcB HB.out hw412_4), (hcB HB.out hw413_0), (hcB HB.out hw413_1), (hcB HB.out hw413_2), (hcB HB.out hw413_3), (hcB HB.out hw413_4), (hcB HB.out hw414_0), (hcB HB.out hw414_1), (hcB HB.out hw414_2), (hcB HB.out hw414_3), (hcB HB.out hw414_4), (hcB HB.out hw415_0), (hcB HB.out hw415_1), (hcB HB.out hw415_2), (hcB HB.out hw415_3), (hcB HB.out hw415_4), (hcB HB.out hw416_0), (hcB HB.out hw416_1), (hcB HB.out hw416_2), (hcB HB.out hw416_3), (hcB HB.out hw416_4), (hcB HB.out hw417_0), (hcB HB.out hw417_1), (hcB HB.out hw417_2), (hcB HB.out hw417_3), (hcB HB.out hw417_4)⟩ (fun hHeld => ?_)
          clear hK K
          refine nm (some 52) ?_
          refine pu 36 53 (bv 38 137438953471) HT_ rfl rfl ?_
          refine pu 37 54 (bv 38 274877906943) HT_ rfl rfl ?_
          refine done_ (done_of HT_.out (by kernel_rfl)) ?_
          try go_wp2
          go_roundg k1
          case measure => have := HK1.out; omega
          case rel => exact ⟨(wrap64 (x5_1 + 1)), rq, H', ⟨by have := HK1.out; omega⟩, ⟨bl⟩⟩
         ·replace c10 := Bool.eq_false_iff.mpr c10
          subst c10
          rw [if_neg Bool.false_ne_true] at H
          obtain rfl := Option.some.inj H
          try go_wp2
          have n_ := aE (below_drew1 HB.out)
          clear HB
          have HB := n_
          clear n_
          have p412 : 0 ≤ (x5_1 : Int) := dt
          have q412 : x5_1 < (l0.length : Int) := dt
          obtain ⟨ad412, A412_2, c412_2, e412, hx412_0, hx412_1, hx412_2, hx412_3, hx412_4, hl412_2, hi412_2⟩ := at_T35 HR0.out x5_1 p412 q412
          have hw412_4 := hx412_4
          have hw412_3 := hx412_3
          have hw412_2 := hx412_2
          have hw412_1 := hx412_1
          have hw412_0 := hx412_0
          cases e412
          replace hx412_0 := hcB HB.out hx412_0
          replace hx412_1 := hcB HB.out hx412_1
          replace hx412_2 := hcB HB.out hx412_2
          replace hx412_3 := hcB HB.out hx412_3
          replace hx412_4 := hcB HB.out hx412_4
          have HR412_2 := Aside0.mk hi412_2
          have HC412_2 := Aside0.mk hl412_2
          clear hi412_2 hl412_2
          replace p412 := eq_true p412
          replace q412 := eq_true q412
          have p413 : 0 ≤ (x5_1 : Int) := dt
          have q413 : x5_1 < (l1.length : Int) := dt
          obtain ⟨ad413, A413_2, c413_2, e413, hx413_0, hx413_1, hx413_2, hx413_3, hx413_4, hl413_2, hi413_2⟩ := at_T35 HR1.out x5_1 p413 q413
          have hw413_4 := hx413_4
          have hw413_3 := hx413_3
          have hw413_2 := hx413_2
          have hw413_1 := hx413_1
          have hw413_0 := hx413_0
          cases e413
          replace hx413_0 := hcB HB.out hx413_0
          replace hx413_1 := hcB HB.out hx413_1
          replace hx413_2 := hcB HB.out hx413_2
          replace hx413_3 := hcB HB.out hx413_3
          replace hx413_4 := hcB HB.out hx413_4
          have HR413_2 := Aside0.mk hi413_2
          have HC413_2 := Aside0.mk hl413_2
          clear hi413_2 hl413_2
          replace p413 := eq_true p413
          replace q413 := eq_true q413
          have p414 : 0 ≤ (x5_1 : Int) := dt
          have q414 : x5_1 < (l0.length : Int) := dt
          obtain ⟨ad414, A414_2, c414_2, e414, hx414_0, hx414_1, hx414_2, hx414_3, hx414_4, hl414_2, hi414_2⟩ := at_T35 HR0.out x5_1 p414 q414
          have hw414_4 := hx414_4
          have hw414_3 := hx414_3
          have hw414_2 := hx414_2
          have hw414_1 := hx414_1
          have hw414_0 := hx414_0
          obtain rfl : ad412 = ad414 := (by injection e414)
          replace hx414_0 := hcB HB.out hx414_0
          replace hx414_1 := hcB HB.out hx414_1
          replace hx414_2 := hcB HB.out hx414_2
          replace hx414_3 := hcB HB.out hx414_3
          replace hx414_4 := hcB HB.out hx414_4
          have HR414_2 := Aside0.mk hi414_2
          have HC414_2 := Aside0.mk hl414_2
          clear hi414_2 hl414_2
          replace p414 := eq_true p414
          replace q414 := eq_true q414
          have ea_ := Option.some.inj (hx412_2.symm.trans hx414_2)
          injection ea_ with ea_ en_ ec_
          subst ea_
          subst ec_
          clear en_
          have p415 : 0 ≤ (x5_1 : Int) := dt
          have q415 : x5_1 < (l1.length : Int) := dt
          obtain ⟨ad415, A415_2, c415_2, e415, hx415_0, hx415_1, hx415_2, hx415_3, hx415_4, hl415_2, hi415_2⟩ := at_T35 HR1.out x5_1 p415 q415
          have hw415_4 := hx415_4
          have hw415_3 := hx415_3
          have hw415_2 := hx415_2
          have hw415_1 := hx415_1
          have hw415_0 := hx415_0
          obtain rfl : ad413 = ad415 := (by injection e415)
          replace hx415_0 := hcB HB.out hx415_0
          replace hx415_1 := hcB HB.out hx415_1
          replace hx415_2 := hcB HB.out hx415_2
          replace hx415_3 := hcB HB.out hx415_3
          replace hx415_4 := hcB HB.out hx415_4
          have HR415_2 := Aside0.mk hi415_2
          have HC415_2 := Aside0.mk hl415_2
          clear hi415_2 hl415_2
          replace p415 := eq_true p415
          replace q415 := eq_true q415
          have ea_ := Option.some.inj (hx413_2.symm.trans hx415_2)
          injection ea_ with ea_ en_ ec_
          subst ea_
          subst ec_
          clear en_
          have p416 : 0 ≤ (x5_1 : Int) := dt
          have q416 : x5_1 < (l0.length : Int) := dt
          obtain ⟨ad416, A416_2, c416_2, e416, hx416_0, hx416_1, hx416_2, hx416_3, hx416_4, hl416_2, hi416_2⟩ := at_T35 HR0.out x5_1 p416 q416
          have hw416_4 := hx416_4
          have hw416_3 := hx416_3
          have hw416_2 := hx416_2
          have hw416_1 := hx416_1
          have hw416_0 := hx416_0
          obtain rfl : ad412 = ad416 := (by injection e416)
          replace hx416_0 := hcB HB.out hx416_0
          replace hx416_1 := hcB HB.out hx416_1
          replace hx416_2 := hcB HB.out hx416_2
          replace hx416_3 := hcB HB.out hx416_3
          replace hx416_4 := hcB HB.out hx416_4
          have HR416_2 := Aside0.mk hi416_2
          have HC416_2 := Aside0.mk hl416_2
          clear hi416_2 hl416_2
          replace p416 := eq_true p416
          replace q416 := eq_true q416
          have ea_ := Option.some.inj (hx412_2.symm.trans hx416_2)
          injection ea_ with ea_ en_ ec_
          subst ea_
          subst ec_
          clear en_
          have p417 : 0 ≤ (x5_1 : Int) := dt
          have q417 : x5_1 < (l1.length : Int) := dt
          obtain ⟨ad417, A417_2, c417_2, e417, hx417_0, hx417_1, hx417_2, hx417_3, hx417_4, hl417_2, hi417_2⟩ := at_T35 HR1.out x5_1 p417 q417
          have hw417_4 := hx417_4
          have hw417_3 := hx417_3
          have hw417_2 := hx417_2
          have hw417_1 := hx417_1
          have hw417_0 := hx417_0
          obtain rfl : ad413 = ad417 := (by injection e417)
          replace hx417_0 := hcB HB.out hx417_0
          replace hx417_1 := hcB HB.out hx417_1
          replace hx417_2 := hcB HB.out hx417_2
          replace hx417_3 := hcB HB.out hx417_3
          replace hx417_4 := hcB HB.out hx417_4
          have HR417_2 := Aside0.mk hi417_2
          have HC417_2 := Aside0.mk hl417_2
          clear hi417_2 hl417_2
          replace p417 := eq_true p417
          replace q417 := eq_true q417
          have ea_ := Option.some.inj (hx413_2.symm.trans hx417_2)
          injection ea_ with ea_ en_ ec_
          subst ea_
          subst ec_
          clear en_
          refine st 38 (fun w' => w'.cell? (ad412.add ((x5_1).toNat * 5)) = some (.int .i64 ((rd_T35 l0 x5_1).f0.f0)) ∧ w'.cell? ⟨(ad412.add ((x5_1).toNat * 5)).block, (ad412.add ((x5_1).toNat * 5)).off + 1, none⟩ = some (.int .i64 ((rd_T35 l0 x5_1).f0.f1)) ∧ w'.cell? ⟨(ad412.add ((x5_1).toNat * 5)).block, (ad412.add ((x5_1).toNat * 5)).off + 2, none⟩ = some (.slice A412_2 ((rd_T35 l0 x5_1).f0.f2).length c412_2) ∧ w'.cell? ⟨(ad412.add ((x5_1).toNat * 5)).block, (ad412.add ((x5_1).toNat * 5)).off + 3, none⟩ = some (.int .i64 ((rd_T35 l0 x5_1).f1)) ∧ w'.cell? ⟨(ad412.add ((x5_1).toNat * 5)).block, (ad412.add ((x5_1).toNat * 5)).off + 4, none⟩ = some (.int .i64 ((rd_T35 l0 x5_1).f2)) ∧ w'.cell? (ad413.add ((x5_1).toNat * 5)) = some (.int .i64 ((rd_T35 l1 x5_1).f0.f0)) ∧ w'.cell? ⟨(ad413.add ((x5_1).toNat * 5)).block, (ad413.add ((x5_1).toNat * 5)).off + 1, none⟩ = some (.int .i64 ((rd_T35 l1 x5_1).f0.f1)) ∧ w'.cell? ⟨(ad413.add ((x5_1).toNat * 5)).block, (ad413.add ((x5_1).toNat * 5)).off + 2, none⟩ = some (.slice A413_2 ((rd_T35 l1 x5_1).f0.f2).length c413_2) ∧ w'.cell? ⟨(ad413.add ((x5_1).toNat * 5)).block, (ad413.add ((x5_1).toNat * 5)).off + 3, none⟩ = some (.int .i64 ((rd_T35 l1 x5_1).f1)) ∧ w'.cell? ⟨(ad413.add ((x5_1).toNat * 5)).block, (ad413.add ((x5_1).toNat * 5)).off + 4, none⟩ = some (.int .i64 ((rd_T35 l1 x5_1).f2)) ∧ w'.cell? (ad412.add ((x5_1).toNat * 5)) = some (.int .i64 ((rd_T35 l0 x5_1).f0.f0)) ∧ w'.cell? ⟨(ad412.add ((x5_1).toNat * 5)).block, (ad412.add ((x5_1).toNat * 5)).off + 1, none⟩ = some (.int .i64 ((rd_T35 l0 x5_1).f0.f1)) ∧ w'.cell? ⟨(ad412.add ((x5_1).toNat * 5)).block, (ad412.add ((x5_1).toNat * 5)).off + 2, none⟩ = some (.slice A412_2 ((rd_T35 l0 x5_1).f0.f2).length c412_2) ∧ w'.cell? ⟨(ad412.add ((x5_1).toNat * 5)).block, (ad412.add ((x5_1).toNat * 5)).off + 3, none⟩ = some (.int .i64 ((rd_T35 l0 x5_1).f1)) ∧ w'.cell? ⟨(ad412.add ((x5_1).toNat * 5)).block, (ad412.add ((x5_1).toNat * 5)).off + 4, none⟩ = some (.int .i64 ((rd_T35 l0 x5_1).f2)) ∧ w'.cell? (ad413.add ((x5_1).toNat * 5)) = some (.int .i64 ((rd_T35 l1 x5_1).f0.f0)) ∧ w'.cell? ⟨(ad413.add ((x5_1).toNat * 5)).block, (ad413.add ((x5_1).toNat * 5)).off + 1, none⟩ = some (.int .i64 ((rd_T35 l1 x5_1).f0.f1)) ∧ w'.cell? ⟨(ad413.add ((x5_1).toNat * 5)).block, (ad413.add ((x5_1).toNat * 5)).off + 2, none⟩ = some (.slice A413_2 ((rd_T35 l1 x5_1).f0.f2).length c413_2) ∧ w'.cell? ⟨(ad413.add ((x5_1).toNat * 5)).block, (ad413.add ((x5_1).toNat * 5)).off + 3, none⟩ = some (.int .i64 ((rd_T35 l1 x5_1).f1)) ∧ w'.cell? ⟨(ad413.add ((x5_1).toNat * 5)).block, (ad413.add ((x5_1).toNat * 5)).off + 4, none⟩ = some (.int .i64 ((rd_T35 l1 x5_1).f2)) ∧ w'.cell? (ad412.add ((x5_1).toNat * 5)) = some (.int .i64 ((rd_T35 l0 x5_1).f0.f0)) ∧ w'.cell? ⟨(ad412.add ((x5_1).toNat * 5)).block, (ad412.add ((x5_1).toNat * 5)).off + 1, none⟩ = some (.int .i64 ((rd_T35 l0 x5_1).f0.f1)) ∧ w'.cell? ⟨(ad412.add ((x5_1).toNat * 5)).block, (ad412.add ((x5_1).toNat * 5)).off + 2, none⟩ = some (.slice A412_2 ((rd_T35 l0 x5_1).f0.f2).length c412_2) ∧ w'.cell? ⟨(ad412.add ((x5_1).toNat * 5)).block, (ad412.add ((x5_1).toNat * 5)).off + 3, none⟩ = some (.int .i64 ((rd_T35 l0 x5_1).f1)) ∧ w'.cell? ⟨(ad412.add ((x5_1).toNat * 5)).block, (ad412.add ((x5_1).toNat * 5)).off + 4, none⟩ = some (.int .i64 ((rd_T35 l0 x5_1).f2)) ∧ w'.cell? (ad413.add ((x5_1).toNat * 5)) = some (.int .i64 ((rd_T35 l1 x5_1).f0.f0)) ∧ w'.cell? ⟨(ad413.add ((x5_1).toNat * 5)).block, (ad413.add ((x5_1).toNat * 5)).off + 1, none⟩ = some (.int .i64 ((rd_T35 l1 x5_1).f0.f1)) ∧ w'.cell? ⟨(ad413.add ((x5_1).toNat * 5)).block, (ad413.add ((x5_1).toNat * 5)).off + 2, none⟩ = some (.slice A413_2 ((rd_T35 l1 x5_1).f0.f2).length c413_2) ∧ w'.cell? ⟨(ad413.add ((x5_1).toNat * 5)).block, (ad413.add ((x5_1).toNat * 5)).off + 3, none⟩ = some (.int .i64 ((rd_T35 l1 x5_1).f1)) ∧ w'.cell? ⟨(ad413.add ((x5_1).toNat * 5)).block, (ad413.add ((x5_1).toNat * 5)).off + 4, none⟩ = some (.int .i64 ((rd_T35 l1 x5_1).f2))) [] (bv 38 0) incunableref15_SamePlaced.tab6 incunableref15_SamePlaced.bits6 ⟨(hcB HB.out hw412_0), (hcB HB.out hw412_1), (hcB HB.out hw412_2), (hcB HB.out hw412_3), (hcB HB.out hw412_4), (hcB HB.out hw413_0), (hcB HB.out hw413_1), (hcB HB.out hw413_2), (hcB HB.out hw413_3), (hcB HB.out hw413_4), (hcB HB.out hw414_0), (hcB HB.out hw414_1), (hcB HB.out hw414_2), (hcB HB.out hw414_3), (hcB HB.out hw414_4), (hcB HB.out hw415_0), (hcB HB.out hw415_1), (hcB HB.out hw415_2), (hcB HB.out hw415_3), (hcB HB.out hw415_4), (hcB HB.out hw416_0), (hcB HB.out hw416_1), (hcB HB.out hw416_2), (hcB HB.out hw416_3), (hcB HB.out hw416_4), (hcB HB.out hw417_0), (hcB HB.out hw417_1), (hcB HB.out hw417_2), (hcB HB.out hw417_3), (hcB HB.out hw417_4)⟩ (fun hHeld HT_ HW_ => ?_)
          generalize wr.drew = w13 at HB HR412_2 HR413_2 HR414_2 HR415_2 HR416_2 HR417_2 hx412_0 hx412_1 hx412_2 hx412_3 hx412_4 hx413_0 hx413_1 hx413_2 hx413_3 hx413_4 hx414_0 hx414_1 hx414_2 hx414_3 hx414_4 hx415_0 hx415_1 hx415_2 hx415_3 hx415_4 hx416_0 hx416_1 hx416_2 hx416_3 hx416_4 hx417_0 hx417_1 hx417_2 hx417_3 hx417_4 hHeld ⊢
          refine pu 0 17 (bv 38 1) HT_ rfl rfl ?_
          refine pu 1 18 (bv 38 3) HT_ rfl rfl ?_
          refine pu 2 19 (bv 38 7) HT_ rfl rfl ?_
          refine pu 3 20 (bv 38 15) HT_ rfl rfl ?_
          refine pu 5 22 (bv 38 47) HT_ rfl rfl ?_
          refine pu 6 23 (bv 38 111) HT_ rfl rfl ?_
          refine pu 7 24 (bv 38 239) HT_ rfl rfl ?_
          refine pu 8 25 (bv 38 495) HT_ rfl rfl ?_
          refine tk 4 21 (bv 38 511) HT_ HW_ hHeld rfl rfl (by rintro w' ⟨s0, s1, s2, s3, s4, s5, s6, s7, s8, s9, s10, s11, s12, s13, s14, s15, s16, s17, s18, s19, s20, s21, s22, s23, s24, s25, s26, s27, s28, s29⟩; exact yl) ?_
          refine tk 9 26 (bv 38 1023) HT_ HW_ hHeld rfl rfl (by rintro w' ⟨s0, s1, s2, s3, s4, s5, s6, s7, s8, s9, s10, s11, s12, s13, s14, s15, s16, s17, s18, s19, s20, s21, s22, s23, s24, s25, s26, s27, s28, s29⟩; exact yl) ?_
          refine pu 10 27 (bv 38 2047) HT_ rfl rfl ?_
          refine pu 11 28 (bv 38 4095) HT_ rfl rfl ?_
          refine pu 12 29 (bv 38 8191) HT_ rfl rfl ?_
          refine pu 13 30 (bv 38 16383) HT_ rfl rfl ?_
          refine pu 14 31 (bv 38 32767) HT_ rfl rfl ?_
          refine pu 15 32 (bv 38 65535) HT_ rfl rfl ?_
          refine pu 17 34 (bv 38 196607) HT_ rfl rfl ?_
          refine pu 18 35 (bv 38 458751) HT_ rfl rfl ?_
          refine pu 19 36 (bv 38 983039) HT_ rfl rfl ?_
          refine pu 20 37 (bv 38 2031615) HT_ rfl rfl ?_
          refine tk 16 33 (bv 38 2097151) HT_ HW_ hHeld rfl rfl (by rintro w' ⟨s0, s1, s2, s3, s4, s5, s6, s7, s8, s9, s10, s11, s12, s13, s14, s15, s16, s17, s18, s19, s20, s21, s22, s23, s24, s25, s26, s27, s28, s29⟩; exact yl) ?_
          refine tk 21 38 (bv 38 4194303) HT_ HW_ hHeld rfl rfl (by rintro w' ⟨s0, s1, s2, s3, s4, s5, s6, s7, s8, s9, s10, s11, s12, s13, s14, s15, s16, s17, s18, s19, s20, s21, s22, s23, s24, s25, s26, s27, s28, s29⟩; exact yl) ?_
          refine pu 22 39 (bv 38 8388607) HT_ rfl rfl ?_
          refine pu 23 40 (bv 38 16777215) HT_ rfl rfl ?_
          refine pu 24 41 (bv 38 33554431) HT_ rfl rfl ?_
          refine pu 25 42 (bv 38 67108863) HT_ rfl rfl ?_
          refine pu 26 43 (bv 38 134217727) HT_ rfl rfl ?_
          refine pu 27 44 (bv 38 268435455) HT_ rfl rfl ?_
          refine pu 28 45 (bv 38 536870911) HT_ rfl rfl ?_
          refine pu 30 47 (bv 38 1610612735) HT_ rfl rfl ?_
          refine pu 31 48 (bv 38 3758096383) HT_ rfl rfl ?_
          refine pu 32 49 (bv 38 8053063679) HT_ rfl rfl ?_
          refine pu 33 50 (bv 38 16642998271) HT_ rfl rfl ?_
          refine tk 29 46 (bv 38 17179869183) HT_ HW_ hHeld rfl rfl (by rintro w' ⟨s0, s1, s2, s3, s4, s5, s6, s7, s8, s9, s10, s11, s12, s13, s14, s15, s16, s17, s18, s19, s20, s21, s22, s23, s24, s25, s26, s27, s28, s29⟩; exact yl) ?_
          refine tk 34 51 (bv 38 34359738367) HT_ HW_ hHeld rfl rfl (by rintro w' ⟨s0, s1, s2, s3, s4, s5, s6, s7, s8, s9, s10, s11, s12, s13, s14, s15, s16, s17, s18, s19, s20, s21, s22, s23, s24, s25, s26, s27, s28, s29⟩; exact yl) ?_
          refine one_ (i := 35) (N := some 52) (bv 38 68719476735) rfl rfl (one_of HT_.out (by kernel_rfl)) (by decide) (fun K hK => ?_)
          refine gK Try.func7 rfl #[.agg #[.int .i64 ((rd_T35 l0 x5_1).f0.f0), .int .i64 ((rd_T35 l0 x5_1).f0.f1), .slice A412_2 ((rd_T35 l0 x5_1).f0.f2).length c412_2], .agg #[.int .i64 ((rd_T35 l1 x5_1).f0.f0), .int .i64 ((rd_T35 l1 x5_1).f0.f1), .slice A413_2 ((rd_T35 l1 x5_1).f0.f2).length c413_2]] rfl rfl ?_
          with_reducible refine (incunableref05_Same.calls ((rd_T35 l0 x5_1).f0.f0) ((rd_T35 l0 x5_1).f0.f1) _ _ ((rd_T35 l0 x5_1).f0.f2) ((rd_T35 l1 x5_1).f0.f0) ((rd_T35 l1 x5_1).f0.f1) _ _ ((rd_T35 l1 x5_1).f0.f2) false _ ?side1 ?side2 ?side3 ?side4 A9.out).mono ?_
          (case side1 => exact cU (Kd.C_below HR416_2.out HB.out))
          (case side2 => exact HC416_2.out)
          (case side3 => exact cU (Kd.C_below HR417_2.out HB.out))
          (case side4 => exact HC417_2.out)
          rintro e w14 ⟨rfl, hb⟩
          refine ⟨_, rfl, ?_⟩
          have n_ := aE (bs hb)
          clear HB
          have HB := n_
          clear n_
          (try clear hb)
          (try clear hb2)
          (try clear hk)
          (try clear hi)
          refine hK.out _ _ ⟨(hcB HB.out hw412_0), (hcB HB.out hw412_1), (hcB HB.out hw412_2), (hcB HB.out hw412_3), (hcB HB.out hw412_4), (hcB HB.out hw413_0), (hcB HB.out hw413_1), (hcB HB.out hw413_2), (hcB HB.out hw413_3), (hcB HB.out hw413_4), (hcB HB.out hw414_0), (hcB HB.out hw414_1), (hcB HB.out hw414_2), (hcB HB.out hw414_3), (hcB HB.out hw414_4), (hcB HB.out hw415_0), (hcB HB.out hw415_1), (hcB HB.out hw415_2), (hcB HB.out hw415_3), (hcB HB.out hw415_4), (hcB HB.out hw416_0), (hcB HB.out hw416_1), (hcB HB.out hw416_2), (hcB HB.out hw416_3), (hcB HB.out hw416_4), (hcB HB.out hw417_0), (hcB HB.out hw417_1), (hcB HB.out hw417_2), (hcB HB.out hw417_3), (hcB HB.out hw417_4)⟩ (fun hHeld => ?_)
          clear hK K
          refine nm (some 52) ?_
          refine pu 36 53 (bv 38 137438953471) HT_ rfl rfl ?_
          refine pu 37 54 (bv 38 274877906943) HT_ rfl rfl ?_
          refine done_ (done_of HT_.out (by kernel_rfl)) ?_
          try go_wp2
          go_ret
          exact ⟨re, bl⟩
        ·obtain rfl := Option.some.inj H
         try go_wp2
         have n_ := aE (below_drew1 HB.out)
         clear HB
         have HB := n_
         clear n_
         have p412 : 0 ≤ (x5_1 : Int) := dt
         have q412 : x5_1 < (l0.length : Int) := dt
         obtain ⟨ad412, A412_2, c412_2, e412, hx412_0, hx412_1, hx412_2, hx412_3, hx412_4, hl412_2, hi412_2⟩ := at_T35 HR0.out x5_1 p412 q412
         have hw412_4 := hx412_4
         have hw412_3 := hx412_3
         have hw412_2 := hx412_2
         have hw412_1 := hx412_1
         have hw412_0 := hx412_0
         cases e412
         replace hx412_0 := hcB HB.out hx412_0
         replace hx412_1 := hcB HB.out hx412_1
         replace hx412_2 := hcB HB.out hx412_2
         replace hx412_3 := hcB HB.out hx412_3
         replace hx412_4 := hcB HB.out hx412_4
         have HR412_2 := Aside0.mk hi412_2
         have HC412_2 := Aside0.mk hl412_2
         clear hi412_2 hl412_2
         replace p412 := eq_true p412
         replace q412 := eq_true q412
         have p413 : 0 ≤ (x5_1 : Int) := dt
         have q413 : x5_1 < (l1.length : Int) := dt
         obtain ⟨ad413, A413_2, c413_2, e413, hx413_0, hx413_1, hx413_2, hx413_3, hx413_4, hl413_2, hi413_2⟩ := at_T35 HR1.out x5_1 p413 q413
         have hw413_4 := hx413_4
         have hw413_3 := hx413_3
         have hw413_2 := hx413_2
         have hw413_1 := hx413_1
         have hw413_0 := hx413_0
         cases e413
         replace hx413_0 := hcB HB.out hx413_0
         replace hx413_1 := hcB HB.out hx413_1
         replace hx413_2 := hcB HB.out hx413_2
         replace hx413_3 := hcB HB.out hx413_3
         replace hx413_4 := hcB HB.out hx413_4
         have HR413_2 := Aside0.mk hi413_2
         have HC413_2 := Aside0.mk hl413_2
         clear hi413_2 hl413_2
         replace p413 := eq_true p413
         replace q413 := eq_true q413
         have p414 : 0 ≤ (x5_1 : Int) := dt
         have q414 : x5_1 < (l0.length : Int) := dt
         obtain ⟨ad414, A414_2, c414_2, e414, hx414_0, hx414_1, hx414_2, hx414_3, hx414_4, hl414_2, hi414_2⟩ := at_T35 HR0.out x5_1 p414 q414
         have hw414_4 := hx414_4
         have hw414_3 := hx414_3
         have hw414_2 := hx414_2
         have hw414_1 := hx414_1
         have hw414_0 := hx414_0
         obtain rfl : ad412 = ad414 := (by injection e414)
         replace hx414_0 := hcB HB.out hx414_0
         replace hx414_1 := hcB HB.out hx414_1
         replace hx414_2 := hcB HB.out hx414_2
         replace hx414_3 := hcB HB.out hx414_3
         replace hx414_4 := hcB HB.out hx414_4
         have HR414_2 := Aside0.mk hi414_2
         have HC414_2 := Aside0.mk hl414_2
         clear hi414_2 hl414_2
         replace p414 := eq_true p414
         replace q414 := eq_true q414
         have ea_ := Option.some.inj (hx412_2.symm.trans hx414_2)
         injection ea_ with ea_ en_ ec_
         subst ea_
         subst ec_
         clear en_
         have p415 : 0 ≤ (x5_1 : Int) := dt
         have q415 : x5_1 < (l1.length : Int) := dt
         obtain ⟨ad415, A415_2, c415_2, e415, hx415_0, hx415_1, hx415_2, hx415_3, hx415_4, hl415_2, hi415_2⟩ := at_T35 HR1.out x5_1 p415 q415
         have hw415_4 := hx415_4
         have hw415_3 := hx415_3
         have hw415_2 := hx415_2
         have hw415_1 := hx415_1
         have hw415_0 := hx415_0
         obtain rfl : ad413 = ad415 := (by injection e415)
         replace hx415_0 := hcB HB.out hx415_0
         replace hx415_1 := hcB HB.out hx415_1
         replace hx415_2 := hcB HB.out hx415_2
         replace hx415_3 := hcB HB.out hx415_3
         replace hx415_4 := hcB HB.out hx415_4
         have HR415_2 := Aside0.mk hi415_2
         have HC415_2 := Aside0.mk hl415_2
         clear hi415_2 hl415_2
         replace p415 := eq_true p415
         replace q415 := eq_true q415
         have ea_ := Option.some.inj (hx413_2.symm.trans hx415_2)
         injection ea_ with ea_ en_ ec_
         subst ea_
         subst ec_
         clear en_
         refine st 38 (fun w' => w'.cell? (ad412.add ((x5_1).toNat * 5)) = some (.int .i64 ((rd_T35 l0 x5_1).f0.f0)) ∧ w'.cell? ⟨(ad412.add ((x5_1).toNat * 5)).block, (ad412.add ((x5_1).toNat * 5)).off + 1, none⟩ = some (.int .i64 ((rd_T35 l0 x5_1).f0.f1)) ∧ w'.cell? ⟨(ad412.add ((x5_1).toNat * 5)).block, (ad412.add ((x5_1).toNat * 5)).off + 2, none⟩ = some (.slice A412_2 ((rd_T35 l0 x5_1).f0.f2).length c412_2) ∧ w'.cell? ⟨(ad412.add ((x5_1).toNat * 5)).block, (ad412.add ((x5_1).toNat * 5)).off + 3, none⟩ = some (.int .i64 ((rd_T35 l0 x5_1).f1)) ∧ w'.cell? ⟨(ad412.add ((x5_1).toNat * 5)).block, (ad412.add ((x5_1).toNat * 5)).off + 4, none⟩ = some (.int .i64 ((rd_T35 l0 x5_1).f2)) ∧ w'.cell? (ad413.add ((x5_1).toNat * 5)) = some (.int .i64 ((rd_T35 l1 x5_1).f0.f0)) ∧ w'.cell? ⟨(ad413.add ((x5_1).toNat * 5)).block, (ad413.add ((x5_1).toNat * 5)).off + 1, none⟩ = some (.int .i64 ((rd_T35 l1 x5_1).f0.f1)) ∧ w'.cell? ⟨(ad413.add ((x5_1).toNat * 5)).block, (ad413.add ((x5_1).toNat * 5)).off + 2, none⟩ = some (.slice A413_2 ((rd_T35 l1 x5_1).f0.f2).length c413_2) ∧ w'.cell? ⟨(ad413.add ((x5_1).toNat * 5)).block, (ad413.add ((x5_1).toNat * 5)).off + 3, none⟩ = some (.int .i64 ((rd_T35 l1 x5_1).f1)) ∧ w'.cell? ⟨(ad413.add ((x5_1).toNat * 5)).block, (ad413.add ((x5_1).toNat * 5)).off + 4, none⟩ = some (.int .i64 ((rd_T35 l1 x5_1).f2)) ∧ w'.cell? (ad412.add ((x5_1).toNat * 5)) = some (.int .i64 ((rd_T35 l0 x5_1).f0.f0)) ∧ w'.cell? ⟨(ad412.add ((x5_1).toNat * 5)).block, (ad412.add ((x5_1).toNat * 5)).off + 1, none⟩ = some (.int .i64 ((rd_T35 l0 x5_1).f0.f1)) ∧ w'.cell? ⟨(ad412.add ((x5_1).toNat * 5)).block, (ad412.add ((x5_1).toNat * 5)).off + 2, none⟩ = some (.slice A412_2 ((rd_T35 l0 x5_1).f0.f2).length c412_2) ∧ w'.cell? ⟨(ad412.add ((x5_1).toNat * 5)).block, (ad412.add ((x5_1).toNat * 5)).off + 3, none⟩ = some (.int .i64 ((rd_T35 l0 x5_1).f1)) ∧ w'.cell? ⟨(ad412.add ((x5_1).toNat * 5)).block, (ad412.add ((x5_1).toNat * 5)).off + 4, none⟩ = some (.int .i64 ((rd_T35 l0 x5_1).f2)) ∧ w'.cell? (ad413.add ((x5_1).toNat * 5)) = some (.int .i64 ((rd_T35 l1 x5_1).f0.f0)) ∧ w'.cell? ⟨(ad413.add ((x5_1).toNat * 5)).block, (ad413.add ((x5_1).toNat * 5)).off + 1, none⟩ = some (.int .i64 ((rd_T35 l1 x5_1).f0.f1)) ∧ w'.cell? ⟨(ad413.add ((x5_1).toNat * 5)).block, (ad413.add ((x5_1).toNat * 5)).off + 2, none⟩ = some (.slice A413_2 ((rd_T35 l1 x5_1).f0.f2).length c413_2) ∧ w'.cell? ⟨(ad413.add ((x5_1).toNat * 5)).block, (ad413.add ((x5_1).toNat * 5)).off + 3, none⟩ = some (.int .i64 ((rd_T35 l1 x5_1).f1)) ∧ w'.cell? ⟨(ad413.add ((x5_1).toNat * 5)).block, (ad413.add ((x5_1).toNat * 5)).off + 4, none⟩ = some (.int .i64 ((rd_T35 l1 x5_1).f2))) [] (bv 38 0) incunableref15_SamePlaced.tab6 incunableref15_SamePlaced.bits6 ⟨(hcB HB.out hw412_0), (hcB HB.out hw412_1), (hcB HB.out hw412_2), (hcB HB.out hw412_3), (hcB HB.out hw412_4), (hcB HB.out hw413_0), (hcB HB.out hw413_1), (hcB HB.out hw413_2), (hcB HB.out hw413_3), (hcB HB.out hw413_4), (hcB HB.out hw414_0), (hcB HB.out hw414_1), (hcB HB.out hw414_2), (hcB HB.out hw414_3), (hcB HB.out hw414_4), (hcB HB.out hw415_0), (hcB HB.out hw415_1), (hcB HB.out hw415_2), (hcB HB.out hw415_3), (hcB HB.out hw415_4)⟩ (fun hHeld HT_ HW_ => ?_)
         generalize wr.drew = w15 at HB HR412_2 HR413_2 HR414_2 HR415_2 hx412_0 hx412_1 hx412_2 hx412_3 hx412_4 hx413_0 hx413_1 hx413_2 hx413_3 hx413_4 hx414_0 hx414_1 hx414_2 hx414_3 hx414_4 hx415_0 hx415_1 hx415_2 hx415_3 hx415_4 hHeld ⊢
         refine pu 0 17 (bv 38 1) HT_ rfl rfl ?_
         refine pu 1 18 (bv 38 3) HT_ rfl rfl ?_
         refine pu 2 19 (bv 38 7) HT_ rfl rfl ?_
         refine pu 3 20 (bv 38 15) HT_ rfl rfl ?_
         refine pu 5 22 (bv 38 47) HT_ rfl rfl ?_
         refine pu 6 23 (bv 38 111) HT_ rfl rfl ?_
         refine pu 7 24 (bv 38 239) HT_ rfl rfl ?_
         refine pu 8 25 (bv 38 495) HT_ rfl rfl ?_
         refine tk 4 21 (bv 38 511) HT_ HW_ hHeld rfl rfl (by rintro w' ⟨s0, s1, s2, s3, s4, s5, s6, s7, s8, s9, s10, s11, s12, s13, s14, s15, s16, s17, s18, s19⟩; exact yl) ?_
         refine tk 9 26 (bv 38 1023) HT_ HW_ hHeld rfl rfl (by rintro w' ⟨s0, s1, s2, s3, s4, s5, s6, s7, s8, s9, s10, s11, s12, s13, s14, s15, s16, s17, s18, s19⟩; exact yl) ?_
         refine pu 10 27 (bv 38 2047) HT_ rfl rfl ?_
         refine pu 11 28 (bv 38 4095) HT_ rfl rfl ?_
         refine pu 12 29 (bv 38 8191) HT_ rfl rfl ?_
         refine pu 13 30 (bv 38 16383) HT_ rfl rfl ?_
         refine pu 14 31 (bv 38 32767) HT_ rfl rfl ?_
         refine pu 15 32 (bv 38 65535) HT_ rfl rfl ?_
         refine pu 17 34 (bv 38 196607) HT_ rfl rfl ?_
         refine pu 18 35 (bv 38 458751) HT_ rfl rfl ?_
         refine pu 19 36 (bv 38 983039) HT_ rfl rfl ?_
         refine pu 20 37 (bv 38 2031615) HT_ rfl rfl ?_
         refine tk 16 33 (bv 38 2097151) HT_ HW_ hHeld rfl rfl (by rintro w' ⟨s0, s1, s2, s3, s4, s5, s6, s7, s8, s9, s10, s11, s12, s13, s14, s15, s16, s17, s18, s19⟩; exact yl) ?_
         refine tk 21 38 (bv 38 4194303) HT_ HW_ hHeld rfl rfl (by rintro w' ⟨s0, s1, s2, s3, s4, s5, s6, s7, s8, s9, s10, s11, s12, s13, s14, s15, s16, s17, s18, s19⟩; exact yl) ?_
         refine pu 22 39 (bv 38 8388607) HT_ rfl rfl ?_
         refine pu 23 40 (bv 38 16777215) HT_ rfl rfl ?_
         refine pu 24 41 (bv 38 33554431) HT_ rfl rfl ?_
         refine pn 25 42 (bv 38 67108863) HT_ rfl rfl ?_
         refine pn 26 43 (bv 38 134217727) HT_ rfl rfl ?_
         refine pn 27 44 (bv 38 268435455) HT_ rfl rfl ?_
         refine pn 28 45 (bv 38 536870911) HT_ rfl rfl ?_
         refine pn 29 46 (bv 38 1073741823) HT_ rfl rfl ?_
         refine pn 30 47 (bv 38 2147483647) HT_ rfl rfl ?_
         refine pn 31 48 (bv 38 4294967295) HT_ rfl rfl ?_
         refine pn 32 49 (bv 38 8589934591) HT_ rfl rfl ?_
         refine pn 33 50 (bv 38 17179869183) HT_ rfl rfl ?_
         refine pn 34 51 (bv 38 34359738367) HT_ rfl rfl ?_
         refine pn 35 52 (bv 38 68719476735) HT_ rfl rfl ?_
         refine pn 36 53 (bv 38 137438953471) HT_ rfl rfl ?_
         refine pu 37 54 (bv 38 274877906943) HT_ rfl rfl ?_
         refine done_ (done_of HT_.out (by kernel_rfl)) ?_
         try go_wp2
         go_ret
         exact ⟨re, bl⟩
       ·obtain rfl := Option.some.inj H
        try go_wp2
        have n_ := aE (below_drew1 HB.out)
        clear HB
        have HB := n_
        clear n_
        have p412 : 0 ≤ (x5_1 : Int) := dt
        have q412 : x5_1 < (l0.length : Int) := dt
        obtain ⟨ad412, A412_2, c412_2, e412, hx412_0, hx412_1, hx412_2, hx412_3, hx412_4, hl412_2, hi412_2⟩ := at_T35 HR0.out x5_1 p412 q412
        have hw412_4 := hx412_4
        have hw412_3 := hx412_3
        have hw412_2 := hx412_2
        have hw412_1 := hx412_1
        have hw412_0 := hx412_0
        cases e412
        replace hx412_0 := hcB HB.out hx412_0
        replace hx412_1 := hcB HB.out hx412_1
        replace hx412_2 := hcB HB.out hx412_2
        replace hx412_3 := hcB HB.out hx412_3
        replace hx412_4 := hcB HB.out hx412_4
        have HR412_2 := Aside0.mk hi412_2
        have HC412_2 := Aside0.mk hl412_2
        clear hi412_2 hl412_2
        replace p412 := eq_true p412
        replace q412 := eq_true q412
        have p413 : 0 ≤ (x5_1 : Int) := dt
        have q413 : x5_1 < (l1.length : Int) := dt
        obtain ⟨ad413, A413_2, c413_2, e413, hx413_0, hx413_1, hx413_2, hx413_3, hx413_4, hl413_2, hi413_2⟩ := at_T35 HR1.out x5_1 p413 q413
        have hw413_4 := hx413_4
        have hw413_3 := hx413_3
        have hw413_2 := hx413_2
        have hw413_1 := hx413_1
        have hw413_0 := hx413_0
        cases e413
        replace hx413_0 := hcB HB.out hx413_0
        replace hx413_1 := hcB HB.out hx413_1
        replace hx413_2 := hcB HB.out hx413_2
        replace hx413_3 := hcB HB.out hx413_3
        replace hx413_4 := hcB HB.out hx413_4
        have HR413_2 := Aside0.mk hi413_2
        have HC413_2 := Aside0.mk hl413_2
        clear hi413_2 hl413_2
        replace p413 := eq_true p413
        replace q413 := eq_true q413
        refine st 38 (fun w' => w'.cell? (ad412.add ((x5_1).toNat * 5)) = some (.int .i64 ((rd_T35 l0 x5_1).f0.f0)) ∧ w'.cell? ⟨(ad412.add ((x5_1).toNat * 5)).block, (ad412.add ((x5_1).toNat * 5)).off + 1, none⟩ = some (.int .i64 ((rd_T35 l0 x5_1).f0.f1)) ∧ w'.cell? ⟨(ad412.add ((x5_1).toNat * 5)).block, (ad412.add ((x5_1).toNat * 5)).off + 2, none⟩ = some (.slice A412_2 ((rd_T35 l0 x5_1).f0.f2).length c412_2) ∧ w'.cell? ⟨(ad412.add ((x5_1).toNat * 5)).block, (ad412.add ((x5_1).toNat * 5)).off + 3, none⟩ = some (.int .i64 ((rd_T35 l0 x5_1).f1)) ∧ w'.cell? ⟨(ad412.add ((x5_1).toNat * 5)).block, (ad412.add ((x5_1).toNat * 5)).off + 4, none⟩ = some (.int .i64 ((rd_T35 l0 x5_1).f2)) ∧ w'.cell? (ad413.add ((x5_1).toNat * 5)) = some (.int .i64 ((rd_T35 l1 x5_1).f0.f0)) ∧ w'.cell? ⟨(ad413.add ((x5_1).toNat * 5)).block, (ad413.add ((x5_1).toNat * 5)).off + 1, none⟩ = some (.int .i64 ((rd_T35 l1 x5_1).f0.f1)) ∧ w'.cell? ⟨(ad413.add ((x5_1).toNat * 5)).block, (ad413.add ((x5_1).toNat * 5)).off + 2, none⟩ = some (.slice A413_2 ((rd_T35 l1 x5_1).f0.f2).length c413_2) ∧ w'.cell? ⟨(ad413.add ((x5_1).toNat * 5)).block, (ad413.add ((x5_1).toNat * 5)).off + 3, none⟩ = some (.int .i64 ((rd_T35 l1 x5_1).f1)) ∧ w'.cell? ⟨(ad413.add ((x5_1).toNat * 5)).block, (ad413.add ((x5_1).toNat * 5)).off + 4, none⟩ = some (.int .i64 ((rd_T35 l1 x5_1).f2))) [] (bv 38 0) incunableref15_SamePlaced.tab6 incunableref15_SamePlaced.bits6 ⟨(hcB HB.out hw412_0), (hcB HB.out hw412_1), (hcB HB.out hw412_2), (hcB HB.out hw412_3), (hcB HB.out hw412_4), (hcB HB.out hw413_0), (hcB HB.out hw413_1), (hcB HB.out hw413_2), (hcB HB.out hw413_3), (hcB HB.out hw413_4)⟩ (fun hHeld HT_ HW_ => ?_)
        generalize wr.drew = w16 at HB HR412_2 HR413_2 hx412_0 hx412_1 hx412_2 hx412_3 hx412_4 hx413_0 hx413_1 hx413_2 hx413_3 hx413_4 hHeld ⊢
        refine pu 0 17 (bv 38 1) HT_ rfl rfl ?_
        refine pu 1 18 (bv 38 3) HT_ rfl rfl ?_
        refine pu 2 19 (bv 38 7) HT_ rfl rfl ?_
        refine pu 3 20 (bv 38 15) HT_ rfl rfl ?_
        refine pu 5 22 (bv 38 47) HT_ rfl rfl ?_
        refine pu 6 23 (bv 38 111) HT_ rfl rfl ?_
        refine pu 7 24 (bv 38 239) HT_ rfl rfl ?_
        refine pu 8 25 (bv 38 495) HT_ rfl rfl ?_
        refine tk 4 21 (bv 38 511) HT_ HW_ hHeld rfl rfl (by rintro w' ⟨s0, s1, s2, s3, s4, s5, s6, s7, s8, s9⟩; exact yl) ?_
        refine tk 9 26 (bv 38 1023) HT_ HW_ hHeld rfl rfl (by rintro w' ⟨s0, s1, s2, s3, s4, s5, s6, s7, s8, s9⟩; exact yl) ?_
        refine pu 10 27 (bv 38 2047) HT_ rfl rfl ?_
        refine pu 11 28 (bv 38 4095) HT_ rfl rfl ?_
        refine pn 12 29 (bv 38 8191) HT_ rfl rfl ?_
        refine pn 13 30 (bv 38 16383) HT_ rfl rfl ?_
        refine pn 14 31 (bv 38 32767) HT_ rfl rfl ?_
        refine pn 15 32 (bv 38 65535) HT_ rfl rfl ?_
        refine pn 16 33 (bv 38 131071) HT_ rfl rfl ?_
        refine pn 17 34 (bv 38 262143) HT_ rfl rfl ?_
        refine pn 18 35 (bv 38 524287) HT_ rfl rfl ?_
        refine pn 19 36 (bv 38 1048575) HT_ rfl rfl ?_
        refine pn 20 37 (bv 38 2097151) HT_ rfl rfl ?_
        refine pn 21 38 (bv 38 4194303) HT_ rfl rfl ?_
        refine pn 22 39 (bv 38 8388607) HT_ rfl rfl ?_
        refine pu 23 40 (bv 38 16777215) HT_ rfl rfl ?_
        refine pu 24 41 (bv 38 33554431) HT_ rfl rfl ?_
        refine pn 25 42 (bv 38 67108863) HT_ rfl rfl ?_
        refine pn 26 43 (bv 38 134217727) HT_ rfl rfl ?_
        refine pn 27 44 (bv 38 268435455) HT_ rfl rfl ?_
        refine pn 28 45 (bv 38 536870911) HT_ rfl rfl ?_
        refine pn 29 46 (bv 38 1073741823) HT_ rfl rfl ?_
        refine pn 30 47 (bv 38 2147483647) HT_ rfl rfl ?_
        refine pn 31 48 (bv 38 4294967295) HT_ rfl rfl ?_
        refine pn 32 49 (bv 38 8589934591) HT_ rfl rfl ?_
        refine pn 33 50 (bv 38 17179869183) HT_ rfl rfl ?_
        refine pn 34 51 (bv 38 34359738367) HT_ rfl rfl ?_
        refine pn 35 52 (bv 38 68719476735) HT_ rfl rfl ?_
        refine pn 36 53 (bv 38 137438953471) HT_ rfl rfl ?_
        refine pu 37 54 (bv 38 274877906943) HT_ rfl rfl ?_
        refine done_ (done_of HT_.out (by kernel_rfl)) ?_
        try go_wp2
        go_ret
        exact ⟨re, bl⟩
      ·rw [if_neg c6] at H
       exact absurd H (by simp)
     ·rw [if_neg c5] at H
      exact absurd H (by simp)
    ·obtain rfl := Option.some.inj H
     go_wp2
     go_ret
     exact ⟨re, bl⟩
 ·rw [if_neg c3] at H
  have c3b0 := beq_eq_false_iff_ne.mpr c3
  have c3b1 := bne_iff_ne.mpr c3
  have c3b2 : (l0.length == l1.length) = false := by first | simpa using c3 | (simp at c3 ⊢; omega)
  obtain rfl := Option.some.inj H
  go_enter Try.func10, Try.ntmps10
  go_wp2
  go_ret
  exact ⟨re, bl⟩
end Go.Proofs.Ytnnbfkmmjclhaaa.PScanSpecks
