-- printed (wip/tools/myprint.py)
import Derived.Test.YtacdchogjpeffaaDoorPNoteGetsx0
namespace Go.Proofs.YtacdchogjpeffaaDoor.PNoteGets
open Go.RowKit Go.Proofs.YtacdchogjpeffaaDoorW.PrintWords Go.Proofs.YtacdchogjpeffaaDoorW.PrintLast Go.Proofs.YtacdchogjpeffaaDoorW.PrintMore
attribute [local go_sem] max2_int min2_int max_two min_two max_three min_three max_four min_four
set_option linter.unusedVariables false
set_option linter.unusedSimpArgs false
mutual
def incunableref25_SameOutlines.l0 : Nat → List (S61) → List (S61) → Int → Option (Bool)
 | 0, _, _, _ => none
 | k + 1, x0, x1, x5 => if x5 < (x0.length : Int) then (if 0 ≤ x5 then (if x5 < (x1.length : Int) then (if ((rd_T61 x0 x5).f0).toList = ((rd_T61 x1 x5).f0).toList then (if ((rd_T61 x0 x5).f1) = ((rd_T61 x1 x5).f1) then ((incunableref25_SameOutlines.f k ((rd_T61 x0 x5).f2) ((rd_T61 x1 x5).f2)).bind fun t121 => (if t121 = true then (incunableref25_SameOutlines.l0 k x0 x1 (wrap64 (x5 + 1))) else (some false))) else (some false)) else (some false)) else (none)) else (none)) else (some true)
def incunableref25_SameOutlines.f : Nat → List (S61) → List (S61) → Option (Bool)
 | 0, _, _ => none
 | k + 1, l0, l1 => if (l0.length : Int) = (l1.length : Int) then (incunableref25_SameOutlines.l0 k l0 l1 0) else (some false)
end
theorem incunableref25_SameOutlines.mono_l : ∀ k, (∀ y0 y1, LeO (incunableref25_SameOutlines.f k y0 y1) (incunableref25_SameOutlines.f (k + 1) y0 y1)) ∧ (∀ y0 y1 y2, LeO (incunableref25_SameOutlines.l0 k y0 y1 y2) (incunableref25_SameOutlines.l0 (k + 1) y0 y1 y2))
 | 0 => ⟨fun _ _ r h => by simp [incunableref25_SameOutlines.f] at h, fun _ _ _ r h => by simp [incunableref25_SameOutlines.l0] at h⟩
 | k + 1 => by
  obtain ⟨ih0, ih1⟩ := incunableref25_SameOutlines.mono_l k
  refine ⟨?_, ?_⟩
  ·intro y0 y1
   unfold incunableref25_SameOutlines.f
   repeat' first
   | (with_reducible exact ih0 _ _)
   | (with_reducible exact ih1 _ _ _)
   | (with_reducible first | exact LeO.refl _ | exact LeO.none _ | refine LeO.ite ?_ ?_ | refine LeO.bind ?_ (fun _ => ?_))
  ·intro y0 y1 y2
   unfold incunableref25_SameOutlines.l0
   repeat' first
   | (with_reducible exact ih0 _ _)
   | (with_reducible exact ih1 _ _ _)
   | (with_reducible first | exact LeO.refl _ | exact LeO.none _ | refine LeO.ite ?_ ?_ | refine LeO.bind ?_ (fun _ => ?_))
theorem incunableref25_SameOutlines.mono : ∀ a0 a1 k, LeO (incunableref25_SameOutlines.f k a0 a1) (incunableref25_SameOutlines.f (k + 1) a0 a1) := by
 intro a0 a1 k
 obtain ⟨ih0, ih1⟩ := incunableref25_SameOutlines.mono_l k
 exact ih0 a0 a1
def incunableref25_SameOutlines.T6 : Bool × List (List Nat × List Nat) := (true, [([], []), ([], []), ([0, 1], [0, 1]), ([2], [2]), ([3], [3]), ([], []), ([], []), ([5, 6], [5, 6]), ([7], [7]), ([8], [8]), ([4, 9], [4, 9]), ([10], [10]), ([11], [11]), ([11], [11]), ([12, 13, 11], [11, 12, 13]), ([14, 11], [11, 14]), ([15, 11], [11, 15]), ([11], [11]), ([11], [11]), ([17, 18, 11], [11, 17, 18]), ([19, 11], [11, 19]), ([20, 11], [11, 20]), ([16, 21, 11], [11, 16, 21]), ([11, 22], [11, 22]), ([23, 11], [23]), ([24], [24]), ([24], [24]), ([25, 26, 24], [24, 25, 26]), ([27, 24], [24, 27]), ([28, 24], [24, 28]), ([24], [24]), ([24], [24]), ([30, 31, 24], [24, 30, 31]), ([32, 24], [24, 32]), ([33, 24], [24, 33]), ([29, 34, 24, 24], [24, 29, 34]), ([35, 24], [24, 35]), ([24, 36], [24, 36])])
def incunableref25_SameOutlines.B6 : List Nat := [0, 0, 3, 7, 15, 0, 0, 96, 224, 480, 1023, 2047, 4095, 4095, 16383, 32767, 65535, 4095, 4095, 397311, 921599, 1970175, 4194303, 8388607, 16777215, 33554431, 33554431, 134217727, 268435455, 536870911, 33554431, 33554431, 3254779903, 7549747199, 16139681791, 34359738367, 68719476735, 137438953471]
theorem incunableref25_SameOutlines.tab6 : rtab .any (opsOf Tryd.f14 6) = incunableref25_SameOutlines.T6 := by kernel_rfl
theorem incunableref25_SameOutlines.bits6 : waitsOk incunableref25_SameOutlines.T6.2 incunableref25_SameOutlines.B6 = true := by kernel_rfl
set_option maxHeartbeats 8000000 in
set_option maxRecDepth 100000 in
theorem incunableref25_SameOutlines.calls (k : Nat) : ∀ (A0 : Option Addr) (c0 : Nat) (l0 : List (S61)) (A1 : Option Addr) (c1 : Nat) (l1 : List (S61)) (r : Bool) (w : World) (hr0 : Kd.C k61 w A0 l0.length l0) (hc0 : l0.length ≤ c0) (hr1 : Kd.C k61 w A1 l1.length l1) (hc1 : l1.length ≤ c1) (h : incunableref25_SameOutlines.f k l0 l1 = some r),
  Calls Tryd.prog 14 #[.slice A0 l0.length c0, .slice A1 l1.length c1] w fun e w' => e = .returned (.bool r) ∧ Below w.heap.size w w' := by
 induction k using Nat.strongRecOn with
 | _ k ih =>
 intro A0 c0 l0 A1 c1 l1 r w hr0 hc0 hr1 hc1 h
 cases k with
 | zero => exact absurd h (by simp [incunableref25_SameOutlines.f])
 | succ k =>
 simp only [incunableref25_SameOutlines.f] at h
 have HR0 := Aside0.mk hr0
 have HC0 := Aside0.mk hc0
 clear hr0 hc0
 have HR1 := Aside0.mk hr1
 have HC1 := Aside0.mk hc1
 clear hr1 hc1
 have HB := Aside0.mk (Below.refl w.heap.size w)
 have H := h
 unfold incunableref25_SameOutlines.f at H
 clear h
 by_cases c3 : (l0.length : Int) = (l1.length : Int)
 ·rw [if_pos c3] at H
  have c3b0 := beq_iff_eq.mpr c3
  have c3b1 := bne_eq_false_iff_eq.mpr c3
  have c3b2 : (l0.length == l1.length) = true := by first | simpa using c3 | (simp at c3 ⊢; omega)
  clear c3
  have H' := Aside0.mk H
  clear H
  go_enter Tryd.func14, Tryd.ntmps14
  go_wp2
  go_loopg [5] k (fun kq v5 w' => ∃ (x5_1 : Int), v5 = .int .i64 x5_1 ∧ Aside0 (incunableref25_SameOutlines.l0 kq l0 l1 x5_1 = some r) ∧ Aside0 (kq ≤ k) ∧ Aside0 (Below w.heap.size w w'))
  case atStart => exact ⟨(0), rq, H', ⟨Nat.le_refl _⟩, ⟨bl⟩⟩
  case round =>
   clear H'
   try clear c1
   obtain ⟨x5_1, rfl, HA, HK1, HB⟩ := hrel
   cases gk with
   | zero => exact absurd HA.out (by simp [incunableref25_SameOutlines.l0])
   | succ k1 =>
    have H := HA.out
    clear HA
    simp only [incunableref25_SameOutlines.l0] at H
    rcases iL H with H1 | H1 <;> clear H <;> obtain ⟨H, c4b0⟩ := H1
    ·by_cases c5 : 0 ≤ x5_1
     ·rw [if_pos c5] at H
      have c5b0 := decide_eq_true c5
      clear c5
      by_cases c6 : x5_1 < (l1.length : Int)
      ·rw [if_pos c6] at H
       have c6b0 := decide_eq_true c6
       clear c6
       rcases iE H with H1 | H1 <;> clear H <;> obtain ⟨H, c7b0, c7b1, c7⟩ := H1
       ·rcases iE H with H1 | H1 <;> clear H <;> obtain ⟨H, c8b0, c8b1, c8⟩ := H1
        ·obtain ⟨t121, A9, H⟩ := oB H
         try dsimp only at H
         by_cases c10 : t121 = true
         ·subst c10
          rw [if_pos rfl] at H
          have H' := Aside0.mk H
          clear H
          try go_wp2
          have n_ := aE (below_drew1 HB.out)
          clear HB
          have HB := n_
          clear n_
          have p115 : 0 ≤ (x5_1 : Int) := dt
          have q115 : x5_1 < (l0.length : Int) := dt
          obtain ⟨ad115, A115_2, c115_2, e115, hx115_0, hx115_1, hx115_2, hl115_2, hi115_2⟩ := at_T61 HR0.out x5_1 p115 q115
          have hw115_2 := hx115_2
          have hw115_1 := hx115_1
          have hw115_0 := hx115_0
          cases e115
          replace hx115_0 := hcB HB.out hx115_0
          replace hx115_1 := hcB HB.out hx115_1
          replace hx115_2 := hcB HB.out hx115_2
          have HR115_2 := Aside0.mk hi115_2
          have HC115_2 := Aside0.mk hl115_2
          clear hi115_2 hl115_2
          replace p115 := eq_true p115
          replace q115 := eq_true q115
          have p116 : 0 ≤ (x5_1 : Int) := dt
          have q116 : x5_1 < (l1.length : Int) := dt
          obtain ⟨ad116, A116_2, c116_2, e116, hx116_0, hx116_1, hx116_2, hl116_2, hi116_2⟩ := at_T61 HR1.out x5_1 p116 q116
          have hw116_2 := hx116_2
          have hw116_1 := hx116_1
          have hw116_0 := hx116_0
          cases e116
          replace hx116_0 := hcB HB.out hx116_0
          replace hx116_1 := hcB HB.out hx116_1
          replace hx116_2 := hcB HB.out hx116_2
          have HR116_2 := Aside0.mk hi116_2
          have HC116_2 := Aside0.mk hl116_2
          clear hi116_2 hl116_2
          replace p116 := eq_true p116
          replace q116 := eq_true q116
          have p117 : 0 ≤ (x5_1 : Int) := dt
          have q117 : x5_1 < (l0.length : Int) := dt
          obtain ⟨ad117, A117_2, c117_2, e117, hx117_0, hx117_1, hx117_2, hl117_2, hi117_2⟩ := at_T61 HR0.out x5_1 p117 q117
          have hw117_2 := hx117_2
          have hw117_1 := hx117_1
          have hw117_0 := hx117_0
          obtain rfl : ad115 = ad117 := (by injection e117)
          replace hx117_0 := hcB HB.out hx117_0
          replace hx117_1 := hcB HB.out hx117_1
          replace hx117_2 := hcB HB.out hx117_2
          have HR117_2 := Aside0.mk hi117_2
          have HC117_2 := Aside0.mk hl117_2
          clear hi117_2 hl117_2
          replace p117 := eq_true p117
          replace q117 := eq_true q117
          have ea_ := Option.some.inj (hx115_2.symm.trans hx117_2)
          injection ea_ with ea_ en_ ec_
          subst ea_
          subst ec_
          clear en_
          have p118 : 0 ≤ (x5_1 : Int) := dt
          have q118 : x5_1 < (l1.length : Int) := dt
          obtain ⟨ad118, A118_2, c118_2, e118, hx118_0, hx118_1, hx118_2, hl118_2, hi118_2⟩ := at_T61 HR1.out x5_1 p118 q118
          have hw118_2 := hx118_2
          have hw118_1 := hx118_1
          have hw118_0 := hx118_0
          obtain rfl : ad116 = ad118 := (by injection e118)
          replace hx118_0 := hcB HB.out hx118_0
          replace hx118_1 := hcB HB.out hx118_1
          replace hx118_2 := hcB HB.out hx118_2
          have HR118_2 := Aside0.mk hi118_2
          have HC118_2 := Aside0.mk hl118_2
          clear hi118_2 hl118_2
          replace p118 := eq_true p118
          replace q118 := eq_true q118
          have ea_ := Option.some.inj (hx116_2.symm.trans hx118_2)
          injection ea_ with ea_ en_ ec_
          subst ea_
          subst ec_
          clear en_
          have p119 : 0 ≤ (x5_1 : Int) := dt
          have q119 : x5_1 < (l0.length : Int) := dt
          obtain ⟨ad119, A119_2, c119_2, e119, hx119_0, hx119_1, hx119_2, hl119_2, hi119_2⟩ := at_T61 HR0.out x5_1 p119 q119
          have hw119_2 := hx119_2
          have hw119_1 := hx119_1
          have hw119_0 := hx119_0
          obtain rfl : ad115 = ad119 := (by injection e119)
          replace hx119_0 := hcB HB.out hx119_0
          replace hx119_1 := hcB HB.out hx119_1
          replace hx119_2 := hcB HB.out hx119_2
          have HR119_2 := Aside0.mk hi119_2
          have HC119_2 := Aside0.mk hl119_2
          clear hi119_2 hl119_2
          replace p119 := eq_true p119
          replace q119 := eq_true q119
          have ea_ := Option.some.inj (hx115_2.symm.trans hx119_2)
          injection ea_ with ea_ en_ ec_
          subst ea_
          subst ec_
          clear en_
          have p120 : 0 ≤ (x5_1 : Int) := dt
          have q120 : x5_1 < (l1.length : Int) := dt
          obtain ⟨ad120, A120_2, c120_2, e120, hx120_0, hx120_1, hx120_2, hl120_2, hi120_2⟩ := at_T61 HR1.out x5_1 p120 q120
          have hw120_2 := hx120_2
          have hw120_1 := hx120_1
          have hw120_0 := hx120_0
          obtain rfl : ad116 = ad120 := (by injection e120)
          replace hx120_0 := hcB HB.out hx120_0
          replace hx120_1 := hcB HB.out hx120_1
          replace hx120_2 := hcB HB.out hx120_2
          have HR120_2 := Aside0.mk hi120_2
          have HC120_2 := Aside0.mk hl120_2
          clear hi120_2 hl120_2
          replace p120 := eq_true p120
          replace q120 := eq_true q120
          have ea_ := Option.some.inj (hx116_2.symm.trans hx120_2)
          injection ea_ with ea_ en_ ec_
          subst ea_
          subst ec_
          clear en_
          refine st 38 (fun w' => w'.cell? (ad115.add ((x5_1).toNat * 3)) = some (.string ((rd_T61 l0 x5_1).f0)) ∧ w'.cell? ⟨(ad115.add ((x5_1).toNat * 3)).block, (ad115.add ((x5_1).toNat * 3)).off + 1, none⟩ = some (.int .i64 ((rd_T61 l0 x5_1).f1)) ∧ w'.cell? ⟨(ad115.add ((x5_1).toNat * 3)).block, (ad115.add ((x5_1).toNat * 3)).off + 2, none⟩ = some (.slice A115_2 ((rd_T61 l0 x5_1).f2).length c115_2) ∧ w'.cell? (ad116.add ((x5_1).toNat * 3)) = some (.string ((rd_T61 l1 x5_1).f0)) ∧ w'.cell? ⟨(ad116.add ((x5_1).toNat * 3)).block, (ad116.add ((x5_1).toNat * 3)).off + 1, none⟩ = some (.int .i64 ((rd_T61 l1 x5_1).f1)) ∧ w'.cell? ⟨(ad116.add ((x5_1).toNat * 3)).block, (ad116.add ((x5_1).toNat * 3)).off + 2, none⟩ = some (.slice A116_2 ((rd_T61 l1 x5_1).f2).length c116_2) ∧ w'.cell? (ad115.add ((x5_1).toNat * 3)) = some (.string ((rd_T61 l0 x5_1).f0)) ∧ w'.cell? ⟨(ad115.add ((x5_1).toNat * 3)).block, (ad115.add ((x5_1).toNat * 3)).off + 1, none⟩ = some (.int .i64 ((rd_T61 l0 x5_1).f1)) ∧ w'.cell? ⟨(ad115.add ((x5_1).toNat * 3)).block, (ad115.add ((x5_1).toNat * 3)).off + 2, none⟩ = some (.slice A115_2 ((rd_T61 l0 x5_1).f2).length c115_2) ∧ w'.cell? (ad116.add ((x5_1).toNat * 3)) = some (.string ((rd_T61 l1 x5_1).f0)) ∧ w'.cell? ⟨(ad116.add ((x5_1).toNat * 3)).block, (ad116.add ((x5_1).toNat * 3)).off + 1, none⟩ = some (.int .i64 ((rd_T61 l1 x5_1).f1)) ∧ w'.cell? ⟨(ad116.add ((x5_1).toNat * 3)).block, (ad116.add ((x5_1).toNat * 3)).off + 2, none⟩ = some (.slice A116_2 ((rd_T61 l1 x5_1).f2).length c116_2) ∧ w'.cell? (ad115.add ((x5_1).toNat * 3)) = some (.string ((rd_T61 l0 x5_1).f0)) ∧ w'.cell? ⟨(ad115.add ((x5_1).toNat * 3)).block, (ad115.add ((x5_1).toNat * 3)).off + 1, none⟩ = some (.int .i64 ((rd_T61 l0 x5_1).f1)) ∧ w'.cell? ⟨(ad115.add ((x5_1).toNat * 3)).block, (ad115.add ((x5_1).toNat * 3)).off + 2, none⟩ = some (.slice A115_2 ((rd_T61 l0 x5_1).f2).length c115_2) ∧ w'.cell? (ad116.add ((x5_1).toNat * 3)) = some (.string ((rd_T61 l1 x5_1).f0)) ∧ w'.cell? ⟨(ad116.add ((x5_1).toNat * 3)).block, (ad116.add ((x5_1).toNat * 3)).off + 1, none⟩ = some (.int .i64 ((rd_T61 l1 x5_1).f1)) ∧ w'.cell? ⟨(ad116.add ((x5_1).toNat * 3)).block, (ad116.add ((x5_1).toNat * 3)).off + 2, none⟩ = some (.slice A116_2 ((rd_T61 l1 x5_1).f2).length c116_2)) [] (bv 38 0) incunableref25_SameOutlines.tab6 incunableref25_SameOutlines.bits6 ⟨(hcB HB.out hw115_0), (hcB HB.out hw115_1), (hcB HB.out hw115_2), (hcB HB.out hw116_0), (hcB HB.out hw116_1), (hcB HB.out hw116_2), (hcB HB.out hw117_0), (hcB HB.out hw117_1), (hcB HB.out hw117_2), (hcB HB.out hw118_0), (hcB HB.out hw118_1), (hcB HB.out hw118_2), (hcB HB.out hw119_0), (hcB HB.out hw119_1), (hcB HB.out hw119_2), (hcB HB.out hw120_0), (hcB HB.out hw120_1), (hcB HB.out hw120_2)⟩ (fun hHeld HT_ HW_ => ?_)
          generalize wr.drew = w11 at HB HR115_2 HR116_2 HR117_2 HR118_2 HR119_2 HR120_2 hx115_0 hx115_1 hx115_2 hx116_0 hx116_1 hx116_2 hx117_0 hx117_1 hx117_2 hx118_0 hx118_1 hx118_2 hx119_0 hx119_1 hx119_2 hx120_0 hx120_1 hx120_2 hHeld ⊢
          refine pu 0 17 (bv 38 1) HT_ rfl rfl ?_
          refine pu 1 18 (bv 38 3) HT_ rfl rfl ?_
          refine pu 2 19 (bv 38 7) HT_ rfl rfl ?_
          refine pu 3 20 (bv 38 15) HT_ rfl rfl ?_
          refine pu 5 22 (bv 38 47) HT_ rfl rfl ?_
          refine pu 6 23 (bv 38 111) HT_ rfl rfl ?_
          refine pu 7 24 (bv 38 239) HT_ rfl rfl ?_
          refine pu 8 25 (bv 38 495) HT_ rfl rfl ?_
          refine tk 4 21 (bv 38 511) HT_ HW_ hHeld rfl rfl (by rintro w' ⟨s0, s1, s2, s3, s4, s5, s6, s7, s8, s9, s10, s11, s12, s13, s14, s15, s16, s17⟩; exact yl) ?_
          refine tk 9 26 (bv 38 1023) HT_ HW_ hHeld rfl rfl (by rintro w' ⟨s0, s1, s2, s3, s4, s5, s6, s7, s8, s9, s10, s11, s12, s13, s14, s15, s16, s17⟩; exact yl) ?_
          refine pu 10 27 (bv 38 2047) HT_ rfl rfl ?_
          refine pu 11 28 (bv 38 4095) HT_ rfl rfl ?_
          refine pu 12 29 (bv 38 8191) HT_ rfl rfl ?_
          refine pu 13 30 (bv 38 16383) HT_ rfl rfl ?_
          refine pu 14 31 (bv 38 32767) HT_ rfl rfl ?_
          refine pu 15 32 (bv 38 65535) HT_ rfl rfl ?_
          refine pu 17 34 (bv 38 196607) HT_ rfl rfl ?_
          refine pu 18 35 (bv 38 458751) HT_ rfl rfl ?_
          refine pu 19 36 (bv 38 983039) HT_ rfl rfl ?_
          refine pu 20 37 (bv 38 2031615) HT_ rfl rfl ?_
          refine tk 16 33 (bv 38 2097151) HT_ HW_ hHeld rfl rfl (by rintro w' ⟨s0, s1, s2, s3, s4, s5, s6, s7, s8, s9, s10, s11, s12, s13, s14, s15, s16, s17⟩; exact yl) ?_
          refine tk 21 38 (bv 38 4194303) HT_ HW_ hHeld rfl rfl (by rintro w' ⟨s0, s1, s2, s3, s4, s5, s6, s7, s8, s9, s10, s11, s12, s13, s14, s15, s16, s17⟩; exact yl) ?_
          refine pu 22 39 (bv 38 8388607) HT_ rfl rfl ?_
          refine pu 23 40 (bv 38 16777215) HT_ rfl rfl ?_
          refine pu 24 41 (bv 38 33554431) HT_ rfl rfl ?_
          refine pu 25 42 (bv 38 67108863) HT_ rfl rfl ?_
          refine pu 26 43 (bv 38 134217727) HT_ rfl rfl ?_
          refine pu 27 44 (bv 38 268435455) HT_ rfl rfl ?_
          refine pu 28 45 (bv 38 536870911) HT_ rfl rfl ?_
          refine pu 30 47 (bv 38 1610612735) HT_ rfl rfl ?_
          refine pu 31 48 (bv 38 3758096383) HT_ rfl rfl ?_
          refine pu 32 49 (bv 38 8053063679) HT_ rfl rfl ?_
          refine pu 33 50 (bv 38 16642998271) HT_ rfl rfl ?_
          refine tk 29 46 (bv 38 17179869183) HT_ HW_ hHeld rfl rfl (by rintro w' ⟨s0, s1, s2, s3, s4, s5, s6, s7, s8, s9, s10, s11, s12, s13, s14, s15, s16, s17⟩; exact yl) ?_
          refine tk 34 51 (bv 38 34359738367) HT_ HW_ hHeld rfl rfl (by rintro w' ⟨s0, s1, s2, s3, s4, s5, s6, s7, s8, s9, s10, s11, s12, s13, s14, s15, s16, s17⟩; exact yl) ?_
          refine one_ (i := 35) (N := some 52) (bv 38 68719476735) rfl rfl (one_of HT_.out (by kernel_rfl)) (by decide) (fun K hK => ?_)
          refine gK Tryd.func14 rfl #[.slice A115_2 ((rd_T61 l0 x5_1).f2).length c115_2, .slice A116_2 ((rd_T61 l1 x5_1).f2).length c116_2] rfl rfl ?_
          with_reducible refine (ih k1 (by have := HK1.out; omega) _ _ ((rd_T61 l0 x5_1).f2) _ _ ((rd_T61 l1 x5_1).f2) true _ ?side1 ?side2 ?side3 ?side4 A9.out).mono ?_
          (case side1 => exact cU (Kd.C_below HR119_2.out HB.out))
          (case side2 => exact HC119_2.out)
          (case side3 => exact cU (Kd.C_below HR120_2.out HB.out))
          (case side4 => exact HC120_2.out)
          rintro e w12 ⟨rfl, hb⟩
          refine ⟨_, rfl, ?_⟩
          have n_ := aE (bs hb)
          clear HB
          have HB := n_
          clear n_
          (try clear hb)
          (try clear hb2)
          (try clear hk)
          (try clear hi)
          refine hK.out _ _ ⟨(hcB HB.out hw115_0), (hcB HB.out hw115_1), (hcB HB.out hw115_2), (hcB HB.out hw116_0), (hcB HB.out hw116_1), (hcB HB.out hw116_2), (hcB HB.out hw117_0), (hcB HB.out hw117_1), (hcB HB.out hw117_2), (hcB HB.out hw118_0), (hcB HB.out hw118_1), (hcB HB.out hw118_2), (hcB HB.out hw119_0), (hcB HB.out hw119_1), (hcB HB.out hw119_2), (hcB HB.out hw120_0), (hcB HB.out hw120_1), (hcB HB.out hw120_2)⟩ (fun hHeld => ?_)
          clear hK K
          refine nm (some 52) ?_
          refine pu 36 53 (bv 38 137438953471) HT_ rfl rfl ?_
          refine pu 37 54 (bv 38 274877906943) HT_ rfl rfl ?_
          refine done_ (done_of HT_.out (by kernel_rfl)) ?_
          try go_wp2
          go_roundg k1
          case measure => have := HK1.out; omega
          case rel => exact ⟨(wrap64 (x5_1 + 1)), rq, H', ⟨by have := HK1.out; omega⟩, ⟨bl⟩⟩
         ·replace c10 := Bool.eq_false_iff.mpr c10
          subst c10
          rw [if_neg Bool.false_ne_true] at H
          obtain rfl := Option.some.inj H
          try go_wp2
          have n_ := aE (below_drew1 HB.out)
          clear HB
          have HB := n_
          clear n_
          have p115 : 0 ≤ (x5_1 : Int) := dt
          have q115 : x5_1 < (l0.length : Int) := dt
          obtain ⟨ad115, A115_2, c115_2, e115, hx115_0, hx115_1, hx115_2, hl115_2, hi115_2⟩ := at_T61 HR0.out x5_1 p115 q115
          have hw115_2 := hx115_2
          have hw115_1 := hx115_1
          have hw115_0 := hx115_0
          cases e115
          replace hx115_0 := hcB HB.out hx115_0
          replace hx115_1 := hcB HB.out hx115_1
          replace hx115_2 := hcB HB.out hx115_2
          have HR115_2 := Aside0.mk hi115_2
          have HC115_2 := Aside0.mk hl115_2
          clear hi115_2 hl115_2
          replace p115 := eq_true p115
          replace q115 := eq_true q115
          have p116 : 0 ≤ (x5_1 : Int) := dt
          have q116 : x5_1 < (l1.length : Int) := dt
          obtain ⟨ad116, A116_2, c116_2, e116, hx116_0, hx116_1, hx116_2, hl116_2, hi116_2⟩ := at_T61 HR1.out x5_1 p116 q116
          have hw116_2 := hx116_2
          have hw116_1 := hx116_1
          have hw116_0 := hx116_0
          cases e116
          replace hx116_0 := hcB HB.out hx116_0
          replace hx116_1 := hcB HB.out hx116_1
          replace hx116_2 := hcB HB.out hx116_2
          have HR116_2 := Aside0.mk hi116_2
          have HC116_2 := Aside0.mk hl116_2
          clear hi116_2 hl116_2
          replace p116 := eq_true p116
          replace q116 := eq_true q116
          have p117 : 0 ≤ (x5_1 : Int) := dt
          have q117 : x5_1 < (l0.length : Int) := dt
          obtain ⟨ad117, A117_2, c117_2, e117, hx117_0, hx117_1, hx117_2, hl117_2, hi117_2⟩ := at_T61 HR0.out x5_1 p117 q117
          have hw117_2 := hx117_2
          have hw117_1 := hx117_1
          have hw117_0 := hx117_0
          obtain rfl : ad115 = ad117 := (by injection e117)
          replace hx117_0 := hcB HB.out hx117_0
          replace hx117_1 := hcB HB.out hx117_1
          replace hx117_2 := hcB HB.out hx117_2
          have HR117_2 := Aside0.mk hi117_2
          have HC117_2 := Aside0.mk hl117_2
          clear hi117_2 hl117_2
          replace p117 := eq_true p117
          replace q117 := eq_true q117
          have ea_ := Option.some.inj (hx115_2.symm.trans hx117_2)
          injection ea_ with ea_ en_ ec_
          subst ea_
          subst ec_
          clear en_
          have p118 : 0 ≤ (x5_1 : Int) := dt
          have q118 : x5_1 < (l1.length : Int) := dt
          obtain ⟨ad118, A118_2, c118_2, e118, hx118_0, hx118_1, hx118_2, hl118_2, hi118_2⟩ := at_T61 HR1.out x5_1 p118 q118
          have hw118_2 := hx118_2
          have hw118_1 := hx118_1
          have hw118_0 := hx118_0
          obtain rfl : ad116 = ad118 := (by injection e118)
          replace hx118_0 := hcB HB.out hx118_0
          replace hx118_1 := hcB HB.out hx118_1
          replace hx118_2 := hcB HB.out hx118_2
          have HR118_2 := Aside0.mk hi118_2
          have HC118_2 := Aside0.mk hl118_2
          clear hi118_2 hl118_2
          replace p118 := eq_true p118
          replace q118 := eq_true q118
          have ea_ := Option.some.inj (hx116_2.symm.trans hx118_2)
          injection ea_ with ea_ en_ ec_
          subst ea_
          subst ec_
          clear en_
          have p119 : 0 ≤ (x5_1 : Int) := dt
          have q119 : x5_1 < (l0.length : Int) := dt
          obtain ⟨ad119, A119_2, c119_2, e119, hx119_0, hx119_1, hx119_2, hl119_2, hi119_2⟩ := at_T61 HR0.out x5_1 p119 q119
          have hw119_2 := hx119_2
          have hw119_1 := hx119_1
          have hw119_0 := hx119_0
          obtain rfl : ad115 = ad119 := (by injection e119)
          replace hx119_0 := hcB HB.out hx119_0
          replace hx119_1 := hcB HB.out hx119_1
          replace hx119_2 := hcB HB.out hx119_2
          have HR119_2 := Aside0.mk hi119_2
          have HC119_2 := Aside0.mk hl119_2
          clear hi119_2 hl119_2
          replace p119 := eq_true p119
          replace q119 := eq_true q119
          have ea_ := Option.some.inj (hx115_2.symm.trans hx119_2)
          injection ea_ with ea_ en_ ec_
          subst ea_
          subst ec_
          clear en_
          have p120 : 0 ≤ (x5_1 : Int) := dt
          have q120 : x5_1 < (l1.length : Int) := dt
          obtain ⟨ad120, A120_2, c120_2, e120, hx120_0, hx120_1, hx120_2, hl120_2, hi120_2⟩ := at_T61 HR1.out x5_1 p120 q120
          have hw120_2 := hx120_2
          have hw120_1 := hx120_1
          have hw120_0 := hx120_0
          obtain rfl : ad116 = ad120 := (by injection e120)
          replace hx120_0 := hcB HB.out hx120_0
          replace hx120_1 := hcB HB.out hx120_1
          replace hx120_2 := hcB HB.out hx120_2
          have HR120_2 := Aside0.mk hi120_2
          have HC120_2 := Aside0.mk hl120_2
          clear hi120_2 hl120_2
          replace p120 := eq_true p120
          replace q120 := eq_true q120
          have ea_ := Option.some.inj (hx116_2.symm.trans hx120_2)
          injection ea_ with ea_ en_ ec_
          subst ea_
          subst ec_
          clear en_
          refine st 38 (fun w' => w'.cell? (ad115.add ((x5_1).toNat * 3)) = some (.string ((rd_T61 l0 x5_1).f0)) ∧ w'.cell? ⟨(ad115.add ((x5_1).toNat * 3)).block, (ad115.add ((x5_1).toNat * 3)).off + 1, none⟩ = some (.int .i64 ((rd_T61 l0 x5_1).f1)) ∧ w'.cell? ⟨(ad115.add ((x5_1).toNat * 3)).block, (ad115.add ((x5_1).toNat * 3)).off + 2, none⟩ = some (.slice A115_2 ((rd_T61 l0 x5_1).f2).length c115_2) ∧ w'.cell? (ad116.add ((x5_1).toNat * 3)) = some (.string ((rd_T61 l1 x5_1).f0)) ∧ w'.cell? ⟨(ad116.add ((x5_1).toNat * 3)).block, (ad116.add ((x5_1).toNat * 3)).off + 1, none⟩ = some (.int .i64 ((rd_T61 l1 x5_1).f1)) ∧ w'.cell? ⟨(ad116.add ((x5_1).toNat * 3)).block, (ad116.add ((x5_1).toNat * 3)).off + 2, none⟩ = some (.slice A116_2 ((rd_T61 l1 x5_1).f2).length c116_2) ∧ w'.cell? (ad115.add ((x5_1).toNat * 3)) = some (.string ((rd_T61 l0 x5_1).f0)) ∧ w'.cell? ⟨(ad115.add ((x5_1).toNat * 3)).block, (ad115.add ((x5_1).toNat * 3)).off + 1, none⟩ = some (.int .i64 ((rd_T61 l0 x5_1).f1)) ∧ w'.cell? ⟨(ad115.add ((x5_1).toNat * 3)).block, (ad115.add ((x5_1).toNat * 3)).off + 2, none⟩ = some (.slice A115_2 ((rd_T61 l0 x5_1).f2).length c115_2) ∧ w'.cell? (ad116.add ((x5_1).toNat * 3)) = some (.string ((rd_T61 l1 x5_1).f0)) ∧ w'.cell? ⟨(ad116.add ((x5_1).toNat * 3)).block, (ad116.add ((x5_1).toNat * 3)).off + 1, none⟩ = some (.int .i64 ((rd_T61 l1 x5_1).f1)) ∧ w'.cell? ⟨(ad116.add ((x5_1).toNat * 3)).block, (ad116.add ((x5_1).toNat * 3)).off + 2, none⟩ = some (.slice A116_2 ((rd_T61 l1 x5_1).f2).length c116_2) ∧ w'.cell? (ad115.add ((x5_1).toNat * 3)) = some (.string ((rd_T61 l0 x5_1).f0)) ∧ w'.cell? ⟨(ad115.add ((x5_1).toNat * 3)).block, (ad115.add ((x5_1).toNat * 3)).off + 1, none⟩ = some (.int .i64 ((rd_T61 l0 x5_1).f1)) ∧ w'.cell? ⟨(ad115.add ((x5_1).toNat * 3)).block, (ad115.add ((x5_1).toNat * 3)).off + 2, none⟩ = some (.slice A115_2 ((rd_T61 l0 x5_1).f2).length c115_2) ∧ w'.cell? (ad116.add ((x5_1).toNat * 3)) = some (.string ((rd_T61 l1 x5_1).f0)) ∧ w'.cell? ⟨(ad116.add ((x5_1).toNat * 3)).block, (ad116.add ((x5_1).toNat * 3)).off + 1, none⟩ = some (.int .i64 ((rd_T61 l1 x5_1).f1)) ∧ w'.cell? ⟨(ad116.add ((x5_1).toNat * 3)).block, (ad116.add ((x5_1).toNat * 3)).off + 2, none⟩ = some (.slice A116_2 ((rd_T61 l1 x5_1).f2).length c116_2)) [] (bv 38 0) incunableref25_SameOutlines.tab6 incunableref25_SameOutlines.bits6 ⟨(hcB HB.out hw115_0), (hcB HB.out hw115_1), (hcB HB.out hw115_2), (hcB HB.out hw116_0), (hcB HB.out hw116_1), (hcB HB.out hw116_2), (hcB HB.out hw117_0), (hcB HB.out hw117_1), (hcB HB.out hw117_2), (hcB HB.out hw118_0), (hcB HB.out hw118_1), (hcB HB.out hw118_2), (hcB HB.out hw119_0), (hcB HB.out hw119_1), (hcB HB.out hw119_2), (hcB HB.out hw120_0), (hcB HB.out hw120_1), (hcB HB.out hw120_2)⟩ (fun hHeld HT_ HW_ => ?_)
          generalize wr.drew = w13 at HB HR115_2 HR116_2 HR117_2 HR118_2 HR119_2 HR120_2 hx115_0 hx115_1 hx115_2 hx116_0 hx116_1 hx116_2 hx117_0 hx117_1 hx117_2 hx118_0 hx118_1 hx118_2 hx119_0 hx119_1 hx119_2 hx120_0 hx120_1 hx120_2 hHeld ⊢
          refine pu 0 17 (bv 38 1) HT_ rfl rfl ?_
          refine pu 1 18 (bv 38 3) HT_ rfl rfl ?_
          refine pu 2 19 (bv 38 7) HT_ rfl rfl ?_
          refine pu 3 20 (bv 38 15) HT_ rfl rfl ?_
          refine pu 5 22 (bv 38 47) HT_ rfl rfl ?_
          refine pu 6 23 (bv 38 111) HT_ rfl rfl ?_
          refine pu 7 24 (bv 38 239) HT_ rfl rfl ?_
          refine pu 8 25 (bv 38 495) HT_ rfl rfl ?_
          refine tk 4 21 (bv 38 511) HT_ HW_ hHeld rfl rfl (by rintro w' ⟨s0, s1, s2, s3, s4, s5, s6, s7, s8, s9, s10, s11, s12, s13, s14, s15, s16, s17⟩; exact yl) ?_
          refine tk 9 26 (bv 38 1023) HT_ HW_ hHeld rfl rfl (by rintro w' ⟨s0, s1, s2, s3, s4, s5, s6, s7, s8, s9, s10, s11, s12, s13, s14, s15, s16, s17⟩; exact yl) ?_
          refine pu 10 27 (bv 38 2047) HT_ rfl rfl ?_
          refine pu 11 28 (bv 38 4095) HT_ rfl rfl ?_
          refine pu 12 29 (bv 38 8191) HT_ rfl rfl ?_
          refine pu 13 30 (bv 38 16383) HT_ rfl rfl ?_
          refine pu 14 31 (bv 38 32767) HT_ rfl rfl ?_
          refine pu 15 32 (bv 38 65535) HT_ rfl rfl ?_
          refine pu 17 34 (bv 38 196607) HT_ rfl rfl ?_
          refine pu 18 35 (bv 38 458751) HT_ rfl rfl ?_
          refine pu 19 36 (bv 38 983039) HT_ rfl rfl ?_
          refine pu 20 37 (bv 38 2031615) HT_ rfl rfl ?_
          refine tk 16 33 (bv 38 2097151) HT_ HW_ hHeld rfl rfl (by rintro w' ⟨s0, s1, s2, s3, s4, s5, s6, s7, s8, s9, s10, s11, s12, s13, s14, s15, s16, s17⟩; exact yl) ?_
          refine tk 21 38 (bv 38 4194303) HT_ HW_ hHeld rfl rfl (by rintro w' ⟨s0, s1, s2, s3, s4, s5, s6, s7, s8, s9, s10, s11, s12, s13, s14, s15, s16, s17⟩; exact yl) ?_
          refine pu 22 39 (bv 38 8388607) HT_ rfl rfl ?_
          refine pu 23 40 (bv 38 16777215) HT_ rfl rfl ?_
          refine pu 24 41 (bv 38 33554431) HT_ rfl rfl ?_
          refine pu 25 42 (bv 38 67108863) HT_ rfl rfl ?_
          refine pu 26 43 (bv 38 134217727) HT_ rfl rfl ?_
          refine pu 27 44 (bv 38 268435455) HT_ rfl rfl ?_
          refine pu 28 45 (bv 38 536870911) HT_ rfl rfl ?_
          refine pu 30 47 (bv 38 1610612735) HT_ rfl rfl ?_
          refine pu 31 48 (bv 38 3758096383) HT_ rfl rfl ?_
          refine pu 32 49 (bv 38 8053063679) HT_ rfl rfl ?_
          refine pu 33 50 (bv 38 16642998271) HT_ rfl rfl ?_
          refine tk 29 46 (bv 38 17179869183) HT_ HW_ hHeld rfl rfl (by rintro w' ⟨s0, s1, s2, s3, s4, s5, s6, s7, s8, s9, s10, s11, s12, s13, s14, s15, s16, s17⟩; exact yl) ?_
          refine tk 34 51 (bv 38 34359738367) HT_ HW_ hHeld rfl rfl (by rintro w' ⟨s0, s1, s2, s3, s4, s5, s6, s7, s8, s9, s10, s11, s12, s13, s14, s15, s16, s17⟩; exact yl) ?_
          refine one_ (i := 35) (N := some 52) (bv 38 68719476735) rfl rfl (one_of HT_.out (by kernel_rfl)) (by decide) (fun K hK => ?_)
          refine gK Tryd.func14 rfl #[.slice A115_2 ((rd_T61 l0 x5_1).f2).length c115_2, .slice A116_2 ((rd_T61 l1 x5_1).f2).length c116_2] rfl rfl ?_
          with_reducible refine (ih k1 (by have := HK1.out; omega) _ _ ((rd_T61 l0 x5_1).f2) _ _ ((rd_T61 l1 x5_1).f2) false _ ?side1 ?side2 ?side3 ?side4 A9.out).mono ?_
          (case side1 => exact cU (Kd.C_below HR119_2.out HB.out))
          (case side2 => exact HC119_2.out)
          (case side3 => exact cU (Kd.C_below HR120_2.out HB.out))
          (case side4 => exact HC120_2.out)
          rintro e w14 ⟨rfl, hb⟩
          refine ⟨_, rfl, ?_⟩
          have n_ := aE (bs hb)
          clear HB
          have HB := n_
          clear n_
          (try clear hb)
          (try clear hb2)
          (try clear hk)
          (try clear hi)
          refine hK.out _ _ ⟨(hcB HB.out hw115_0), (hcB HB.out hw115_1), (hcB HB.out hw115_2), (hcB HB.out hw116_0), (hcB HB.out hw116_1), (hcB HB.out hw116_2), (hcB HB.out hw117_0), (hcB HB.out hw117_1), (hcB HB.out hw117_2), (hcB HB.out hw118_0), (hcB HB.out hw118_1), (hcB HB.out hw118_2), (hcB HB.out hw119_0), (hcB HB.out hw119_1), (hcB HB.out hw119_2), (hcB HB.out hw120_0), (hcB HB.out hw120_1), (hcB HB.out hw120_2)⟩ (fun hHeld => ?_)
          clear hK K
          refine nm (some 52) ?_
          refine pu 36 53 (bv 38 137438953471) HT_ rfl rfl ?_
          refine pu 37 54 (bv 38 274877906943) HT_ rfl rfl ?_
          refine done_ (done_of HT_.out (by kernel_rfl)) ?_
          try go_wp2
          go_ret
          exact ⟨re, bl⟩
        ·obtain rfl := Option.some.inj H
         try go_wp2
         have n_ := aE (below_drew1 HB.out)
         clear HB
         have HB := n_
         clear n_
         have p115 : 0 ≤ (x5_1 : Int) := dt
         have q115 : x5_1 < (l0.length : Int) := dt
         obtain ⟨ad115, A115_2, c115_2, e115, hx115_0, hx115_1, hx115_2, hl115_2, hi115_2⟩ := at_T61 HR0.out x5_1 p115 q115
         have hw115_2 := hx115_2
         have hw115_1 := hx115_1
         have hw115_0 := hx115_0
         cases e115
         replace hx115_0 := hcB HB.out hx115_0
         replace hx115_1 := hcB HB.out hx115_1
         replace hx115_2 := hcB HB.out hx115_2
         have HR115_2 := Aside0.mk hi115_2
         have HC115_2 := Aside0.mk hl115_2
         clear hi115_2 hl115_2
         replace p115 := eq_true p115
         replace q115 := eq_true q115
         have p116 : 0 ≤ (x5_1 : Int) := dt
         have q116 : x5_1 < (l1.length : Int) := dt
         obtain ⟨ad116, A116_2, c116_2, e116, hx116_0, hx116_1, hx116_2, hl116_2, hi116_2⟩ := at_T61 HR1.out x5_1 p116 q116
         have hw116_2 := hx116_2
         have hw116_1 := hx116_1
         have hw116_0 := hx116_0
         cases e116
         replace hx116_0 := hcB HB.out hx116_0
         replace hx116_1 := hcB HB.out hx116_1
         replace hx116_2 := hcB HB.out hx116_2
         have HR116_2 := Aside0.mk hi116_2
         have HC116_2 := Aside0.mk hl116_2
         clear hi116_2 hl116_2
         replace p116 := eq_true p116
         replace q116 := eq_true q116
         have p117 : 0 ≤ (x5_1 : Int) := dt
         have q117 : x5_1 < (l0.length : Int) := dt
         obtain ⟨ad117, A117_2, c117_2, e117, hx117_0, hx117_1, hx117_2, hl117_2, hi117_2⟩ := at_T61 HR0.out x5_1 p117 q117
         have hw117_2 := hx117_2
         have hw117_1 := hx117_1
         have hw117_0 := hx117_0
         obtain rfl : ad115 = ad117 := (by injection e117)
         replace hx117_0 := hcB HB.out hx117_0
         replace hx117_1 := hcB HB.out hx117_1
         replace hx117_2 := hcB HB.out hx117_2
         have HR117_2 := Aside0.mk hi117_2
         have HC117_2 := Aside0.mk hl117_2
         clear hi117_2 hl117_2
         replace p117 := eq_true p117
         replace q117 := eq_true q117
         have ea_ := Option.some.inj (hx115_2.symm.trans hx117_2)
         injection ea_ with ea_ en_ ec_
         subst ea_
         subst ec_
         clear en_
         have p118 : 0 ≤ (x5_1 : Int) := dt
         have q118 : x5_1 < (l1.length : Int) := dt
         obtain ⟨ad118, A118_2, c118_2, e118, hx118_0, hx118_1, hx118_2, hl118_2, hi118_2⟩ := at_T61 HR1.out x5_1 p118 q118
         have hw118_2 := hx118_2
         have hw118_1 := hx118_1
         have hw118_0 := hx118_0
         obtain rfl : ad116 = ad118 := (by injection e118)
         replace hx118_0 := hcB HB.out hx118_0
         replace hx118_1 := hcB HB.out hx118_1
         replace hx118_2 := hcB HB.out hx118_2
         have HR118_2 := Aside0.mk hi118_2
         have HC118_2 := Aside0.mk hl118_2
         clear hi118_2 hl118_2
         replace p118 := eq_true p118
         replace q118 := eq_true q118
         have ea_ := Option.some.inj (hx116_2.symm.trans hx118_2)
         injection ea_ with ea_ en_ ec_
         subst ea_
         subst ec_
         clear en_
         refine st 38 (fun w' => w'.cell? (ad115.add ((x5_1).toNat * 3)) = some (.string ((rd_T61 l0 x5_1).f0)) ∧ w'.cell? ⟨(ad115.add ((x5_1).toNat * 3)).block, (ad115.add ((x5_1).toNat * 3)).off + 1, none⟩ = some (.int .i64 ((rd_T61 l0 x5_1).f1)) ∧ w'.cell? ⟨(ad115.add ((x5_1).toNat * 3)).block, (ad115.add ((x5_1).toNat * 3)).off + 2, none⟩ = some (.slice A115_2 ((rd_T61 l0 x5_1).f2).length c115_2) ∧ w'.cell? (ad116.add ((x5_1).toNat * 3)) = some (.string ((rd_T61 l1 x5_1).f0)) ∧ w'.cell? ⟨(ad116.add ((x5_1).toNat * 3)).block, (ad116.add ((x5_1).toNat * 3)).off + 1, none⟩ = some (.int .i64 ((rd_T61 l1 x5_1).f1)) ∧ w'.cell? ⟨(ad116.add ((x5_1).toNat * 3)).block, (ad116.add ((x5_1).toNat * 3)).off + 2, none⟩ = some (.slice A116_2 ((rd_T61 l1 x5_1).f2).length c116_2) ∧ w'.cell? (ad115.add ((x5_1).toNat * 3)) = some (.string ((rd_T61 l0 x5_1).f0)) ∧ w'.cell? ⟨(ad115.add ((x5_1).toNat * 3)).block, (ad115.add ((x5_1).toNat * 3)).off + 1, none⟩ = some (.int .i64 ((rd_T61 l0 x5_1).f1)) ∧ w'.cell? ⟨(ad115.add ((x5_1).toNat * 3)).block, (ad115.add ((x5_1).toNat * 3)).off + 2, none⟩ = some (.slice A115_2 ((rd_T61 l0 x5_1).f2).length c115_2) ∧ w'.cell? (ad116.add ((x5_1).toNat * 3)) = some (.string ((rd_T61 l1 x5_1).f0)) ∧ w'.cell? ⟨(ad116.add ((x5_1).toNat * 3)).block, (ad116.add ((x5_1).toNat * 3)).off + 1, none⟩ = some (.int .i64 ((rd_T61 l1 x5_1).f1)) ∧ w'.cell? ⟨(ad116.add ((x5_1).toNat * 3)).block, (ad116.add ((x5_1).toNat * 3)).off + 2, none⟩ = some (.slice A116_2 ((rd_T61 l1 x5_1).f2).length c116_2)) [] (bv 38 0) incunableref25_SameOutlines.tab6 incunableref25_SameOutlines.bits6 ⟨(hcB HB.out hw115_0), (hcB HB.out hw115_1), (hcB HB.out hw115_2), (hcB HB.out hw116_0), (hcB HB.out hw116_1), (hcB HB.out hw116_2), (hcB HB.out hw117_0), (hcB HB.out hw117_1), (hcB HB.out hw117_2), (hcB HB.out hw118_0), (hcB HB.out hw118_1), (hcB HB.out hw118_2)⟩ (fun hHeld HT_ HW_ => ?_)
         generalize wr.drew = w15 at HB HR115_2 HR116_2 HR117_2 HR118_2 hx115_0 hx115_1 hx115_2 hx116_0 hx116_1 hx116_2 hx117_0 hx117_1 hx117_2 hx118_0 hx118_1 hx118_2 hHeld ⊢
         refine pu 0 17 (bv 38 1) HT_ rfl rfl ?_
         refine pu 1 18 (bv 38 3) HT_ rfl rfl ?_
         refine pu 2 19 (bv 38 7) HT_ rfl rfl ?_
         refine pu 3 20 (bv 38 15) HT_ rfl rfl ?_
         refine pu 5 22 (bv 38 47) HT_ rfl rfl ?_
         refine pu 6 23 (bv 38 111) HT_ rfl rfl ?_
         refine pu 7 24 (bv 38 239) HT_ rfl rfl ?_
         refine pu 8 25 (bv 38 495) HT_ rfl rfl ?_
         refine tk 4 21 (bv 38 511) HT_ HW_ hHeld rfl rfl (by rintro w' ⟨s0, s1, s2, s3, s4, s5, s6, s7, s8, s9, s10, s11⟩; exact yl) ?_
         refine tk 9 26 (bv 38 1023) HT_ HW_ hHeld rfl rfl (by rintro w' ⟨s0, s1, s2, s3, s4, s5, s6, s7, s8, s9, s10, s11⟩; exact yl) ?_
         refine pu 10 27 (bv 38 2047) HT_ rfl rfl ?_
         refine pu 11 28 (bv 38 4095) HT_ rfl rfl ?_
         refine pu 12 29 (bv 38 8191) HT_ rfl rfl ?_
         refine pu 13 30 (bv 38 16383) HT_ rfl rfl ?_
         refine pu 14 31 (bv 38 32767) HT_ rfl rfl ?_
         refine pu 15 32 (bv 38 65535) HT_ rfl rfl ?_
         refine pu 17 34 (bv 38 196607) HT_ rfl rfl ?_
         refine pu 18 35 (bv 38 458751) HT_ rfl rfl ?_
         refine pu 19 36 (bv 38 983039) HT_ rfl rfl ?_
         refine pu 20 37 (bv 38 2031615) HT_ rfl rfl ?_
         refine tk 16 33 (bv 38 2097151) HT_ HW_ hHeld rfl rfl (by rintro w' ⟨s0, s1, s2, s3, s4, s5, s6, s7, s8, s9, s10, s11⟩; exact yl) ?_
         refine tk 21 38 (bv 38 4194303) HT_ HW_ hHeld rfl rfl (by rintro w' ⟨s0, s1, s2, s3, s4, s5, s6, s7, s8, s9, s10, s11⟩; exact yl) ?_
         refine pu 22 39 (bv 38 8388607) HT_ rfl rfl ?_
         refine pu 23 40 (bv 38 16777215) HT_ rfl rfl ?_
         refine pu 24 41 (bv 38 33554431) HT_ rfl rfl ?_
         refine pn 25 42 (bv 38 67108863) HT_ rfl rfl ?_
         refine pn 26 43 (bv 38 134217727) HT_ rfl rfl ?_
         refine pn 27 44 (bv 38 268435455) HT_ rfl rfl ?_
         refine pn 28 45 (bv 38 536870911) HT_ rfl rfl ?_
         refine pn 29 46 (bv 38 1073741823) HT_ rfl rfl ?_
         refine pn 30 47 (bv 38 2147483647) HT_ rfl rfl ?_
         refine pn 31 48 (bv 38 4294967295) HT_ rfl rfl ?_
         refine pn 32 49 (bv 38 8589934591) HT_ rfl rfl ?_
         refine pn 33 50 (bv 38 17179869183) HT_ rfl rfl ?_
         refine pn 34 51 (bv 38 34359738367) HT_ rfl rfl ?_
         refine pn 35 52 (bv 38 68719476735) HT_ rfl rfl ?_
         refine pn 36 53 (bv 38 137438953471) HT_ rfl rfl ?_
         refine pu 37 54 (bv 38 274877906943) HT_ rfl rfl ?_
         refine done_ (done_of HT_.out (by kernel_rfl)) ?_
         try go_wp2
         go_ret
         exact ⟨re, bl⟩
       ·obtain rfl := Option.some.inj H
        try go_wp2
        have n_ := aE (below_drew1 HB.out)
        clear HB
        have HB := n_
        clear n_
        have p115 : 0 ≤ (x5_1 : Int) := dt
        have q115 : x5_1 < (l0.length : Int) := dt
        obtain ⟨ad115, A115_2, c115_2, e115, hx115_0, hx115_1, hx115_2, hl115_2, hi115_2⟩ := at_T61 HR0.out x5_1 p115 q115
        have hw115_2 := hx115_2
        have hw115_1 := hx115_1
        have hw115_0 := hx115_0
        cases e115
        replace hx115_0 := hcB HB.out hx115_0
        replace hx115_1 := hcB HB.out hx115_1
        replace hx115_2 := hcB HB.out hx115_2
        have HR115_2 := Aside0.mk hi115_2
        have HC115_2 := Aside0.mk hl115_2
        clear hi115_2 hl115_2
        replace p115 := eq_true p115
        replace q115 := eq_true q115
        have p116 : 0 ≤ (x5_1 : Int) := dt
        have q116 : x5_1 < (l1.length : Int) := dt
        obtain ⟨ad116, A116_2, c116_2, e116, hx116_0, hx116_1, hx116_2, hl116_2, hi116_2⟩ := at_T61 HR1.out x5_1 p116 q116
        have hw116_2 := hx116_2
        have hw116_1 := hx116_1
        have hw116_0 := hx116_0
        cases e116
        replace hx116_0 := hcB HB.out hx116_0
        replace hx116_1 := hcB HB.out hx116_1
        replace hx116_2 := hcB HB.out hx116_2
        have HR116_2 := Aside0.mk hi116_2
        have HC116_2 := Aside0.mk hl116_2
        clear hi116_2 hl116_2
        replace p116 := eq_true p116
        replace q116 := eq_true q116
        refine st 38 (fun w' => w'.cell? (ad115.add ((x5_1).toNat * 3)) = some (.string ((rd_T61 l0 x5_1).f0)) ∧ w'.cell? ⟨(ad115.add ((x5_1).toNat * 3)).block, (ad115.add ((x5_1).toNat * 3)).off + 1, none⟩ = some (.int .i64 ((rd_T61 l0 x5_1).f1)) ∧ w'.cell? ⟨(ad115.add ((x5_1).toNat * 3)).block, (ad115.add ((x5_1).toNat * 3)).off + 2, none⟩ = some (.slice A115_2 ((rd_T61 l0 x5_1).f2).length c115_2) ∧ w'.cell? (ad116.add ((x5_1).toNat * 3)) = some (.string ((rd_T61 l1 x5_1).f0)) ∧ w'.cell? ⟨(ad116.add ((x5_1).toNat * 3)).block, (ad116.add ((x5_1).toNat * 3)).off + 1, none⟩ = some (.int .i64 ((rd_T61 l1 x5_1).f1)) ∧ w'.cell? ⟨(ad116.add ((x5_1).toNat * 3)).block, (ad116.add ((x5_1).toNat * 3)).off + 2, none⟩ = some (.slice A116_2 ((rd_T61 l1 x5_1).f2).length c116_2)) [] (bv 38 0) incunableref25_SameOutlines.tab6 incunableref25_SameOutlines.bits6 ⟨(hcB HB.out hw115_0), (hcB HB.out hw115_1), (hcB HB.out hw115_2), (hcB HB.out hw116_0), (hcB HB.out hw116_1), (hcB HB.out hw116_2)⟩ (fun hHeld HT_ HW_ => ?_)
        generalize wr.drew = w16 at HB HR115_2 HR116_2 hx115_0 hx115_1 hx115_2 hx116_0 hx116_1 hx116_2 hHeld ⊢
        refine pu 0 17 (bv 38 1) HT_ rfl rfl ?_
        refine pu 1 18 (bv 38 3) HT_ rfl rfl ?_
        refine pu 2 19 (bv 38 7) HT_ rfl rfl ?_
        refine pu 3 20 (bv 38 15) HT_ rfl rfl ?_
        refine pu 5 22 (bv 38 47) HT_ rfl rfl ?_
        refine pu 6 23 (bv 38 111) HT_ rfl rfl ?_
        refine pu 7 24 (bv 38 239) HT_ rfl rfl ?_
        refine pu 8 25 (bv 38 495) HT_ rfl rfl ?_
        refine tk 4 21 (bv 38 511) HT_ HW_ hHeld rfl rfl (by rintro w' ⟨s0, s1, s2, s3, s4, s5⟩; exact yl) ?_
        refine tk 9 26 (bv 38 1023) HT_ HW_ hHeld rfl rfl (by rintro w' ⟨s0, s1, s2, s3, s4, s5⟩; exact yl) ?_
        refine pu 10 27 (bv 38 2047) HT_ rfl rfl ?_
        refine pu 11 28 (bv 38 4095) HT_ rfl rfl ?_
        refine pn 12 29 (bv 38 8191) HT_ rfl rfl ?_
        refine pn 13 30 (bv 38 16383) HT_ rfl rfl ?_
        refine pn 14 31 (bv 38 32767) HT_ rfl rfl ?_
        refine pn 15 32 (bv 38 65535) HT_ rfl rfl ?_
        refine pn 16 33 (bv 38 131071) HT_ rfl rfl ?_
        refine pn 17 34 (bv 38 262143) HT_ rfl rfl ?_
        refine pn 18 35 (bv 38 524287) HT_ rfl rfl ?_
        refine pn 19 36 (bv 38 1048575) HT_ rfl rfl ?_
        refine pn 20 37 (bv 38 2097151) HT_ rfl rfl ?_
        refine pn 21 38 (bv 38 4194303) HT_ rfl rfl ?_
        refine pn 22 39 (bv 38 8388607) HT_ rfl rfl ?_
        refine pu 23 40 (bv 38 16777215) HT_ rfl rfl ?_
        refine pu 24 41 (bv 38 33554431) HT_ rfl rfl ?_
        refine pn 25 42 (bv 38 67108863) HT_ rfl rfl ?_
        refine pn 26 43 (bv 38 134217727) HT_ rfl rfl ?_
        refine pn 27 44 (bv 38 268435455) HT_ rfl rfl ?_
        refine pn 28 45 (bv 38 536870911) HT_ rfl rfl ?_
        refine pn 29 46 (bv 38 1073741823) HT_ rfl rfl ?_
        refine pn 30 47 (bv 38 2147483647) HT_ rfl rfl ?_
        refine pn 31 48 (bv 38 4294967295) HT_ rfl rfl ?_
        refine pn 32 49 (bv 38 8589934591) HT_ rfl rfl ?_
        refine pn 33 50 (bv 38 17179869183) HT_ rfl rfl ?_
        refine pn 34 51 (bv 38 34359738367) HT_ rfl rfl ?_
        refine pn 35 52 (bv 38 68719476735) HT_ rfl rfl ?_
        refine pn 36 53 (bv 38 137438953471) HT_ rfl rfl ?_
        refine pu 37 54 (bv 38 274877906943) HT_ rfl rfl ?_
        refine done_ (done_of HT_.out (by kernel_rfl)) ?_
        try go_wp2
        go_ret
        exact ⟨re, bl⟩
      ·rw [if_neg c6] at H
       exact absurd H (by simp)
     ·rw [if_neg c5] at H
      exact absurd H (by simp)
    ·obtain rfl := Option.some.inj H
     go_wp2
     go_ret
     exact ⟨re, bl⟩
 ·rw [if_neg c3] at H
  have c3b0 := beq_eq_false_iff_ne.mpr c3
  have c3b1 := bne_iff_ne.mpr c3
  have c3b2 : (l0.length == l1.length) = false := by first | simpa using c3 | (simp at c3 ⊢; omega)
  obtain rfl := Option.some.inj H
  go_enter Tryd.func14, Tryd.ntmps14
  go_wp2
  go_ret
  exact ⟨re, bl⟩
end Go.Proofs.YtacdchogjpeffaaDoor.PNoteGets
