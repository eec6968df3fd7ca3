-- Written by a program of this session (wip/tools/myprint.py) over the kit's print. Not trusted: Lean checks it.
import Derived.Test.YtknclbodinfbeaaDoorPRunsGetOnex0
import Derived.Test.YtknclbodinfbeaaDoorPRunsGetOnex8
import Derived.Test.YtknclbodinfbeaaDoorPRunsGetOnex9
namespace Go.Proofs.YtknclbodinfbeaaDoor.PRunsGetOne
open Go.RowKit Go.Proofs.YtknclbodinfbeaaDoorW.PrintWords Go.Proofs.YtknclbodinfbeaaDoorW.PrintLast Go.Proofs.YtknclbodinfbeaaDoorW.PrintMore
attribute [local go_sem] max2_int min2_int max_two min_two max_three min_three max_four min_four   -- for this text's walks alone
set_option linter.unusedVariables false
set_option linter.unusedSimpArgs false

/-! ### runs_reader_number: function 98 -/
def runs_reader_number.f (k : Nat) (s0_0 : List Int) (s0_1 : Int) (s0_2 : Bool) (l1_0 : List (S87)) (l1_1 : List ByteArray) : Option (Int × Int × Int × Bool) := (runs_reader_word.f k s0_0 s0_1 s0_2 l1_1).bind fun bt368 => (if bt368.2.1 = 0 then (if 0 ≤ bt368.1 then (if bt368.1 < (l1_0.length : Int) then ((bits_Reader_Bits.f k s0_0 bt368.2.2.1 bt368.2.2.2 ((rd_T87 l1_0 bt368.1).f1)).bind fun bt373 => (some (wrap64 (bt373.1 + ((rd_T87 l1_0 bt368.1).f2)), bt373.2.1, bt373.2.2.1, bt373.2.2.2))) else (none)) else (none)) else (some (0, bt368.2.1, bt368.2.2.1, bt368.2.2.2)))
theorem runs_reader_number.mono : ∀ a0 a1 a2 a3 a4 k, LeO (runs_reader_number.f k a0 a1 a2 a3 a4) (runs_reader_number.f (k + 1) a0 a1 a2 a3 a4) := by
 intro a0 a1 a2 a3 a4 k
 unfold runs_reader_number.f
 repeat' first
   | (with_reducible exact bits_Reader_Bits.mono _ _ _ _ _)
   | (with_reducible exact runs_reader_word.mono _ _ _ _ _)
   | (with_reducible first | exact LeO.refl _ | exact LeO.none _ | refine LeO.ite ?_ ?_ | refine LeO.bind ?_ (fun _ => ?_))
   | exact bits_Reader_Bits.mono _ _ _ _ _
   | exact runs_reader_word.mono _ _ _ _ _
   | exact LeO.none _ | refine LeO.ite ?_ ?_ | refine LeO.bind ?_ (fun _ => ?_)
def runs_reader_number.T4 : Bool × List (List Nat × List Nat) := (true, [([], []), ([0], [0]), ([1], [1]), ([2], [2]), ([], []), ([4], [4]), ([], []), ([5, 6], [5, 6]), ([7], [7]), ([8], [8]), ([3, 9], [3, 9]), ([10], [10]), ([11], [11]), ([11], [11]), ([12, 10, 0, 1, 2, 3, 4, 5, 6, 7, 8, 9, 10, 11, 12], [12]), ([13, 14, 0, 1, 2, 3, 4, 5, 6, 7, 8, 9, 10, 11, 12, 13, 14], [13])])
def runs_reader_number.B4 : List Nat := [0, 1, 3, 7, 0, 16, 0, 112, 240, 496, 1023, 2047, 4095, 4095, 8191, 32767]
theorem runs_reader_number.tab4 : rtab .any (opsOf Tryd.f98 4) = runs_reader_number.T4 := by kernel_rfl
theorem runs_reader_number.bits4 : waitsOk runs_reader_number.T4.2 runs_reader_number.B4 = true := by kernel_rfl
set_option maxHeartbeats 8000000 in
set_option maxRecDepth 100000 in
theorem runs_reader_number.calls (k : Nat) (g : Nat) (s0_0 : List Int) (s0_1 : Int) (s0_2 : Bool) (A1_0 : Option Addr) (c1_0 : Nat) (l1_0 : List (S87)) (A1_1 : Option Addr) (c1_1 : Nat) (l1_1 : List ByteArray) (r1 : Int) (r2 : Int) (r3 : Int) (r4 : Bool) (w0 w : World) (hI : IsS140 w0 w g s0_0 s0_1 s0_2) (hB : Below w0.heap.size w0 w) (hr1_0 : ∀ W_, KeepBut w W_ g none → Kd.C k87 W_ A1_0 l1_0.length l1_0) (hc1_0 : l1_0.length ≤ c1_0) (hr1_1 : Kd.C Kd.string w A1_1 l1_1.length l1_1) (hc1_1 : l1_1.length ≤ c1_1) (hf1_1 : ∀ ad, A1_1 = some ad → 0 < l1_1.length → ad.block ≠ g) (gx : Nat) (hXk : ∀ W_ : World, KeepBut w W_ g none → W_.cell? ⟨gx, 0, none⟩ = some (.pointer (some ⟨g, 0, none⟩))) (h : runs_reader_number.f k s0_0 s0_1 s0_2 l1_0 l1_1 = some (r1, r2, r3, r4)) :
  Calls Tryd.prog 98 #[.pointer (some ⟨gx, 0, none⟩), .agg #[.slice A1_0 l1_0.length c1_0, .slice A1_1 l1_1.length c1_1]] w fun e w' => e = .returned (.tuple #[.int .i64 r1, .int .i64 r2]) ∧ IsS140 w0 w' g s0_0 r3 r4 ∧ Below w0.heap.size w0 w' ∧ KeepBut w w' g none := by
 have hu110 := Tryd.underlying110
 have hu107 := Tryd.underlying107
 have HR1_0 := Aside0.mk hr1_0
 have HC1_0 := Aside0.mk hc1_0
 clear hr1_0 hc1_0
 have HR1_1 := Aside0.mk hr1_1
 have HC1_1 := Aside0.mk hc1_1
 clear hr1_1 hc1_1
 have HI0 := Aside0.mk hI
 have HK := Aside0.mk (KeepBut.refl w g none)
 have HL := Aside0.mk hB.size
 clear hI
 have HW0 := Aside0.mk hB.size
 have HB := Aside0.mk hB
 clear hB
 have H : ((runs_reader_word.f k s0_0 s0_1 s0_2 l1_1).bind fun bt368 => (if bt368.2.1 = 0 then (if 0 ≤ bt368.1 then (if bt368.1 < (l1_0.length : Int) then ((bits_Reader_Bits.f k s0_0 bt368.2.2.1 bt368.2.2.2 ((rd_T87 l1_0 bt368.1).f1)).bind fun bt373 => (some (wrap64 (bt373.1 + ((rd_T87 l1_0 bt368.1).f2)), bt373.2.1, bt373.2.2.1, bt373.2.2.2))) else (none)) else (none)) else (some (0, bt368.2.1, bt368.2.2.1, bt368.2.2.2)))) = some (r1, r2, r3, r4) := h
 clear h
 replace H := Option.bind_eq_some_iff.mp H
 obtain ⟨⟨t368, t369, t370, t371⟩, A30, H⟩ := H
 replace H : (if t369 = 0 then (if 0 ≤ t368 then (if t368 < (l1_0.length : Int) then ((bits_Reader_Bits.f k s0_0 t370 t371 ((rd_T87 l1_0 t368).f1)).bind fun bt373 => (some (wrap64 (bt373.1 + ((rd_T87 l1_0 t368).f2)), bt373.2.1, bt373.2.2.1, bt373.2.2.2))) else (none)) else (none)) else (some (0, t369, t370, t371))) = some (r1, r2, r3, r4) := H
 have A3 := Aside0.mk A30
 clear A30
 by_cases c4 : t369 = 0
 ·rw [if_pos c4] at H
  have c4b0 := beq_iff_eq.mpr c4
  have c4b1 := bne_eq_false_iff_eq.mpr c4
  clear c4
  by_cases c5 : 0 ≤ t368
  ·rw [if_pos c5] at H
   have c5b0 := decide_eq_true c5
   clear c5
   by_cases c6 : t368 < (l1_0.length : Int)
   ·rw [if_pos c6] at H
    have c6b0 := decide_eq_true c6
    clear c6
    replace H := Option.bind_eq_some_iff.mp H
    obtain ⟨⟨t373, t374, t375, t376⟩, A70, H⟩ := H
    replace H : (some (wrap64 (t373 + ((rd_T87 l1_0 t368).f2)), t374, t375, t376)) = some (r1, r2, r3, r4) := H
    have A7 := Aside0.mk A70
    clear A70
    simp only [Option.some.injEq, Prod.mk.injEq] at H
    obtain ⟨rfl, rfl, rfl, rfl⟩ := H
    go_enter Tryd.func98, Tryd.ntmps98
    have hX_ := hXk _ HK.out
    try go_wp2_with (first | ((with_reducible refine gd 3 rfl ?_); refine bx 3 #[.slice A1_0 l1_0.length c1_0, .slice A1_1 l1_1.length c1_1] 107 rfl rfl ?_; intro gb367 hg w8 hbox hb; have n_ := aC (IsS140.below (by repeat (first | (with_reducible first | exact HI0.out | apply IsS140.alloc | apply IsS140.drewN | apply IsS140.drew | apply IsS140.set_1 | apply IsS140.set_2) | exact HI0.out)) hb) (aC (KeepBut.trans (by repeat (first | (with_reducible first | exact HK.out | apply KeepBut.set_ | apply keep_drewN | apply keep_drew | apply keep_alloc) | exact HK.out)) (KeepBut.of_below hb g none) (.inl rfl)) (aC (below_step (by repeat (first | (with_reducible first | exact HB.out | apply below_alloc | apply pw_below_drewN | apply below_drew1 | refine below_set ?_ (IsS140.ge HI0.out)) | exact HB.out)) hb) (aC hbox (aC ((by rw [hg]; exact (keep_size (w := w) (g := g) (row := none) (by repeat (first | (with_reducible first | exact HK.out | apply KeepBut.set_ | apply keep_drewN | apply keep_drew | apply keep_alloc) | exact HK.out))) : w.heap.size ≤ gb367)) (aC ((Nat.le_trans HW0.out (by rw [hg]; exact (keep_size (w := w) (g := g) (row := none) (by repeat (first | (with_reducible first | exact HK.out | apply KeepBut.set_ | apply keep_drewN | apply keep_drew | apply keep_alloc) | exact HK.out))) : w.heap.size ≤ gb367) : w0.heap.size ≤ gb367)) (aC ((by rw [hg]; exact Nat.ne_of_lt (IsS140.lt (show IsS140 w0 _ g s0_0 s0_1 s0_2 from by repeat (first | (with_reducible first | exact HI0.out | apply IsS140.alloc | apply IsS140.drewN | apply IsS140.drew | apply IsS140.set_1 | apply IsS140.set_2) | exact HI0.out))) : g ≠ gb367)) (aE ((by rw [hg]; exact Nat.ne_of_gt (IsS140.lt (show IsS140 w0 _ g s0_0 s0_1 s0_2 from by repeat (first | (with_reducible first | exact HI0.out | apply IsS140.alloc | apply IsS140.drewN | apply IsS140.drew | apply IsS140.set_1 | apply IsS140.set_2) | exact HI0.out))) : gb367 ≠ g))))))))); clear HI0 HK HB; obtain ⟨HI0, HK, HB, BK367, GW367, GE367, NB0_367, NB367_0⟩ := n_; clear hb hbox hg; have hnb9 := NB367_0.out; have hnc9 := NB0_367.out; obtain ⟨hcz10_0, hcz10_1, hfz10_0, hfz10_1⟩ := cz2f BK367.out; have hX_ := hXk _ HK.out) | ((with_reducible refine gf 102 rfl ?_); refine gL (some 13) rfl rfl Tryd.func102 rfl #[.pointer (some ⟨gx, 0, none⟩), .slice A1_1 l1_1.length c1_1] rfl ?_; (with_reducible refine (runs_reader_word.calls k g s0_0 s0_1 s0_2 _ _ l1_1 t368 t369 t370 t371 w0 _ ?side1 ?side2 ?side3 ?side4 ?side5 gx (fun W_ h_ => hXk W_ (KeepBut.trans (by repeat (first | (with_reducible first | exact HK.out | apply KeepBut.set_ | apply keep_drewN | apply keep_drew | apply keep_alloc | refine keep_far ?_ GW367.out _) | exact HK.out)) h_ (.inl rfl))) A3.out).mono ?_); (case side1 => repeat (first | (with_reducible first | exact HI0.out | apply IsS140.alloc | apply IsS140.drewN | apply IsS140.drew | apply IsS140.set_1 | apply IsS140.set_2 | refine IsS140.far ?_ NB0_367.out _) | exact HI0.out)); (case side2 => repeat (first | (with_reducible first | exact HB.out | apply below_alloc | apply pw_below_drewN | apply below_drew1 | refine below_set ?_ (IsS140.ge HI0.out) | refine below_set ?_ GE367.out) | exact HB.out)); (case side3 => exact Kd.C_keep (⟨#[]⟩ : ByteArray) HR1_1.out (by repeat (first | (with_reducible first | exact HK.out | apply KeepBut.set_ | apply keep_drewN | apply keep_drew | apply keep_alloc | refine keep_far ?_ GW367.out _) | exact HK.out)) hf1_1); (case side4 => exact HC1_1.out); (case side5 => exact hf1_1); rintro e w11 ⟨rfl, hi, hb, hk⟩; refine ⟨_, rfl, ?_⟩; have n_ := aC (KeepBut.blk hk (g' := gb367) (o := .cells #[.slice A1_0 l1_0.length c1_0, .slice A1_1 l1_1.length c1_1] 107 (0, 0)) (bU BK367.out) NB367_0.out (by simp)) (aC (KeepBut.trans (by repeat (first | (with_reducible first | exact HK.out | apply KeepBut.set_ | apply keep_drewN | apply keep_drew | apply keep_alloc | refine keep_far ?_ GW367.out _) | exact HK.out)) hk (.inl rfl)) (aC hb (aE hi))); clear BK367 HK HB HI0; obtain ⟨BK367, HK, HB, HI0⟩ := n_; (try clear hb); have hX_ := hXk _ HK.out))
    have n_ := aC (blk_drew BK367.out) (aC (IsS140.drew HI0.out) (aC (keep_drew HK.out) (aE (below_drew1 HB.out))))
    clear BK367 HI0 HK HB
    obtain ⟨BK367, HI0, HK, HB⟩ := n_
    have p372 : 0 ≤ (t368 : Int) := dt
    have q372 : t368 < (l1_0.length : Int) := dt
    obtain ⟨ad372, e372, hx372_0, hx372_1, hx372_2, hx372_3⟩ := at_T87 (Kd.C_foot_now HR1_0.out HK.out) t368 p372 q372
    have hw372_3 := hx372_3
    have hw372_2 := hx372_2
    have hw372_1 := hx372_1
    have hw372_0 := hx372_0
    cases e372
    have hne372_3 := (show (⟨(ad372.add ((t368).toNat * 4)).block, (ad372.add ((t368).toNat * 4)).off + 3, none⟩ : Addr).block ≠ g from by first | (rw [add_block]; exact Kd.foot_ne HR1_0.out (by omega) (by decide)) | (show (Addr.add _ _).block ≠ _; rw [add_block]; exact Kd.foot_ne HR1_0.out (by omega) (by decide)) | exact Kd.foot_ne HR1_0.out (by omega) (by decide) | (dsimp only; exact Kd.foot_ne HR1_0.out (by omega) (by decide)))
    have hlt372_3 := (Kd.foot_lt HR1_0.out (by omega) (by decide))
    have hne372_2 := (show (⟨(ad372.add ((t368).toNat * 4)).block, (ad372.add ((t368).toNat * 4)).off + 2, none⟩ : Addr).block ≠ g from by first | (rw [add_block]; exact Kd.foot_ne HR1_0.out (by omega) (by decide)) | (show (Addr.add _ _).block ≠ _; rw [add_block]; exact Kd.foot_ne HR1_0.out (by omega) (by decide)) | exact Kd.foot_ne HR1_0.out (by omega) (by decide) | (dsimp only; exact Kd.foot_ne HR1_0.out (by omega) (by decide)))
    have hlt372_2 := (Kd.foot_lt HR1_0.out (by omega) (by decide))
    have hne372_1 := (show (⟨(ad372.add ((t368).toNat * 4)).block, (ad372.add ((t368).toNat * 4)).off + 1, none⟩ : Addr).block ≠ g from by first | (rw [add_block]; exact Kd.foot_ne HR1_0.out (by omega) (by decide)) | (show (Addr.add _ _).block ≠ _; rw [add_block]; exact Kd.foot_ne HR1_0.out (by omega) (by decide)) | exact Kd.foot_ne HR1_0.out (by omega) (by decide) | (dsimp only; exact Kd.foot_ne HR1_0.out (by omega) (by decide)))
    have hlt372_1 := (Kd.foot_lt HR1_0.out (by omega) (by decide))
    have hne372_0 := (show ((ad372.add ((t368).toNat * 4)) : Addr).block ≠ g from by first | (rw [add_block]; exact Kd.foot_ne HR1_0.out (by omega) (by decide)) | (show (Addr.add _ _).block ≠ _; rw [add_block]; exact Kd.foot_ne HR1_0.out (by omega) (by decide)) | exact Kd.foot_ne HR1_0.out (by omega) (by decide) | (dsimp only; exact Kd.foot_ne HR1_0.out (by omega) (by decide)))
    have hlt372_0 := (Kd.foot_lt HR1_0.out (by omega) (by decide))
    replace p372 := eq_true p372
    replace q372 := eq_true q372
    refine st 16 (fun w' => w'.cell? ⟨gb367, 0, none⟩ = some (.slice (some ad372) l1_0.length c1_0) ∧ w'.cell? ⟨gb367, 1, none⟩ = some (.slice A1_1 l1_1.length c1_1) ∧ w'.cell? (ad372.add ((t368).toNat * 4)) = some (.int .i64 ((rd_T87 l1_0 t368).f0)) ∧ w'.cell? ⟨(ad372.add ((t368).toNat * 4)).block, (ad372.add ((t368).toNat * 4)).off + 1, none⟩ = some (.int .i64 ((rd_T87 l1_0 t368).f1)) ∧ w'.cell? ⟨(ad372.add ((t368).toNat * 4)).block, (ad372.add ((t368).toNat * 4)).off + 2, none⟩ = some (.int .i64 ((rd_T87 l1_0 t368).f2)) ∧ w'.cell? ⟨(ad372.add ((t368).toNat * 4)).block, (ad372.add ((t368).toNat * 4)).off + 3, none⟩ = some (.int .i64 ((rd_T87 l1_0 t368).f3)) ∧ w'.cell? ⟨gx, 0, none⟩ = some (.pointer (some ⟨g, 0, none⟩))) [] (bv 16 0) runs_reader_number.tab4 runs_reader_number.bits4 ⟨kc0 BK367.out, kc1 BK367.out, hx372_0, hx372_1, hx372_2, hx372_3, (hXk _ HK.out)⟩ (fun hHeld HT_ HW_ => ?_)
    generalize w11.drew = w12 at BK367 HI0 HK HB hx372_0 hx372_1 hx372_2 hx372_3 hHeld ⊢
    refine pu 0 20 (bv 16 1) HT_ rfl rfl ?_
    refine pu 1 21 (bv 16 3) HT_ rfl rfl ?_
    refine pu 2 22 (bv 16 7) HT_ rfl rfl ?_
    refine pu 4 24 (bv 16 23) HT_ rfl rfl ?_
    refine pu 6 26 (bv 16 87) HT_ rfl rfl ?_
    refine tk 3 23 (bv 16 95) HT_ HW_ hHeld rfl rfl (by rintro w' ⟨s0, s1, s2, s3, s4, s5, s99⟩; exact yl) ?_
    refine tk 5 25 (bv 16 127) HT_ HW_ hHeld rfl rfl (by rintro w' ⟨s0, s1, s2, s3, s4, s5, s99⟩; exact yl) ?_
    refine pu 7 27 (bv 16 255) HT_ rfl rfl ?_
    refine pu 8 28 (bv 16 511) HT_ rfl rfl ?_
    refine tk 9 29 (bv 16 1023) HT_ HW_ hHeld rfl rfl (by rintro w' ⟨s0, s1, s2, s3, s4, s5, s99⟩; exact yl) ?_
    refine one_ (i := 10) (N := some 30) (bv 16 2047) rfl rfl (one_of HT_.out (by kernel_rfl)) (by decide) (fun K hK => ?_)
    refine gK Tryd.func114 rfl #[.pointer (some ⟨g, 0, none⟩), .int .i64 ((rd_T87 l1_0 t368).f1)] rfl rfl ?_
    with_reducible refine (bits_Reader_Bits.calls k g s0_0 t370 t371 ((rd_T87 l1_0 t368).f1) t373 t374 t375 t376 w0 _ ?side1 ?side2 A7.out).mono ?_
    (case side1 => repeat (first | (with_reducible first | exact HI0.out | apply IsS140.alloc | apply IsS140.drewN | apply IsS140.drew | apply IsS140.set_1 | apply IsS140.set_2 | refine IsS140.far ?_ NB0_367.out _) | exact HI0.out))
    (case side2 => repeat (first | (with_reducible first | exact HB.out | apply below_alloc | apply pw_below_drewN | apply below_drew1 | refine below_set ?_ (IsS140.ge HI0.out) | refine below_set ?_ GE367.out) | exact HB.out))
    rintro e w13 ⟨rfl, hi, hb, hk⟩
    have HS2_ := keep_cell hk (hHeld.2.2.1) (by first | (rw [add_block]; exact hne372_0) | (show (Addr.add _ _).block ≠ _; rw [add_block]; exact hne372_0) | exact hne372_0)
    have HS3_ := keep_cell hk (hHeld.2.2.2.1) (by first | (rw [add_block]; exact hne372_1) | (show (Addr.add _ _).block ≠ _; rw [add_block]; exact hne372_1) | exact hne372_1)
    have HS4_ := keep_cell hk (hHeld.2.2.2.2.1) (by first | (rw [add_block]; exact hne372_2) | (show (Addr.add _ _).block ≠ _; rw [add_block]; exact hne372_2) | exact hne372_2)
    have HS5_ := keep_cell hk (hHeld.2.2.2.2.2.1) (by first | (rw [add_block]; exact hne372_3) | (show (Addr.add _ _).block ≠ _; rw [add_block]; exact hne372_3) | exact hne372_3)
    refine ⟨_, rfl, ?_⟩
    have n_ := aC (KeepBut.blk hk (g' := gb367) (o := .cells #[.slice (some ad372) l1_0.length c1_0, .slice A1_1 l1_1.length c1_1] 107 (0, 0)) (bU BK367.out) NB367_0.out (by simp)) (aC (KeepBut.trans (by repeat (first | (with_reducible first | exact HK.out | apply KeepBut.set_ | apply keep_drewN | apply keep_drew | apply keep_alloc | refine keep_far ?_ GW367.out _) | exact HK.out)) hk (.inl rfl)) (aC hb (aE hi)))
    clear BK367 HK HB HI0
    obtain ⟨BK367, HK, HB, HI0⟩ := n_
    (try clear hb)
    (try clear hb2)
    (try clear hk)
    (try clear hi)
    refine hK.out _ _ ⟨kc0 BK367.out, kc1 BK367.out, HS2_, HS3_, HS4_, HS5_, (hXk _ HK.out)⟩ (fun hHeld => ?_)
    clear hK K
    refine nm (some 30) ?_
    refine pu 11 19 (bv 16 4095) HT_ rfl rfl ?_
    refine pu 12 31 (bv 16 8191) HT_ rfl rfl ?_
    refine pu 13 32 (bv 16 16383) HT_ rfl rfl ?_
    refine pu 14 8 (bv 16 32767) HT_ rfl rfl ?_
    refine pu 15 7 (bv 16 65535) HT_ rfl rfl ?_
    refine done_ (done_of HT_.out (by kernel_rfl)) ?_
    obtain ⟨hcz14_0, hcz14_1, hfz14_0, hfz14_1⟩ := cz2f BK367.out
    have p377 : 0 ≤ (t368 : Int) := dt
    have q377 : t368 < (l1_0.length : Int) := dt
    obtain ⟨ad377, e377, hx377_0, hx377_1, hx377_2, hx377_3⟩ := at_T87 (Kd.C_foot_now HR1_0.out HK.out) t368 p377 q377
    obtain rfl : ad372 = ad377 := (by injection e377)
    replace p377 := eq_true p377
    replace q377 := eq_true q377
    have hX_ := hXk _ HK.out
    try go_wp2
    go_ret2
    exact ⟨re, by repeat (first | (with_reducible first | exact HI0.out | apply IsS140.alloc | apply IsS140.drewN | apply IsS140.drew | apply IsS140.set_1 | apply IsS140.set_2 | refine IsS140.far ?_ NB0_367.out _) | exact HI0.out), by repeat (first | (with_reducible first | exact HB.out | apply below_alloc | apply pw_below_drewN | apply below_drew1 | refine below_set ?_ (IsS140.ge HI0.out) | refine below_set ?_ GE367.out) | exact HB.out), by repeat (first | (with_reducible first | exact HK.out | apply KeepBut.set_ | apply keep_drewN | apply keep_drew | apply keep_alloc | refine keep_far ?_ GW367.out _) | exact HK.out)⟩
   ·rw [if_neg c6] at H
    exact absurd H (by simp)
  ·rw [if_neg c5] at H
   exact absurd H (by simp)
 ·rw [if_neg c4] at H
  have c4b0 := beq_eq_false_iff_ne.mpr c4
  have c4b1 := bne_iff_ne.mpr c4
  simp only [Option.some.injEq, Prod.mk.injEq] at H
  obtain ⟨rfl, rfl, rfl, rfl⟩ := H
  go_enter Tryd.func98, Tryd.ntmps98
  have hX_ := hXk _ HK.out
  go_wp2_with (first | ((with_reducible refine gd 3 rfl ?_); refine bx 3 #[.slice A1_0 l1_0.length c1_0, .slice A1_1 l1_1.length c1_1] 107 rfl rfl ?_; intro gb367 hg w15 hbox hb; have n_ := aC (IsS140.below (by repeat (first | (with_reducible first | exact HI0.out | apply IsS140.alloc | apply IsS140.drewN | apply IsS140.drew | apply IsS140.set_1 | apply IsS140.set_2) | exact HI0.out)) hb) (aC (KeepBut.trans (by repeat (first | (with_reducible first | exact HK.out | apply KeepBut.set_ | apply keep_drewN | apply keep_drew | apply keep_alloc) | exact HK.out)) (KeepBut.of_below hb g none) (.inl rfl)) (aC (below_step (by repeat (first | (with_reducible first | exact HB.out | apply below_alloc | apply pw_below_drewN | apply below_drew1 | refine below_set ?_ (IsS140.ge HI0.out)) | exact HB.out)) hb) (aC hbox (aC ((by rw [hg]; exact (keep_size (w := w) (g := g) (row := none) (by repeat (first | (with_reducible first | exact HK.out | apply KeepBut.set_ | apply keep_drewN | apply keep_drew | apply keep_alloc) | exact HK.out))) : w.heap.size ≤ gb367)) (aC ((Nat.le_trans HW0.out (by rw [hg]; exact (keep_size (w := w) (g := g) (row := none) (by repeat (first | (with_reducible first | exact HK.out | apply KeepBut.set_ | apply keep_drewN | apply keep_drew | apply keep_alloc) | exact HK.out))) : w.heap.size ≤ gb367) : w0.heap.size ≤ gb367)) (aC ((by rw [hg]; exact Nat.ne_of_lt (IsS140.lt (show IsS140 w0 _ g s0_0 s0_1 s0_2 from by repeat (first | (with_reducible first | exact HI0.out | apply IsS140.alloc | apply IsS140.drewN | apply IsS140.drew | apply IsS140.set_1 | apply IsS140.set_2) | exact HI0.out))) : g ≠ gb367)) (aE ((by rw [hg]; exact Nat.ne_of_gt (IsS140.lt (show IsS140 w0 _ g s0_0 s0_1 s0_2 from by repeat (first | (with_reducible first | exact HI0.out | apply IsS140.alloc | apply IsS140.drewN | apply IsS140.drew | apply IsS140.set_1 | apply IsS140.set_2) | exact HI0.out))) : gb367 ≠ g))))))))); clear HI0 HK HB; obtain ⟨HI0, HK, HB, BK367, GW367, GE367, NB0_367, NB367_0⟩ := n_; clear hb hbox hg; have hnb16 := NB367_0.out; have hnc16 := NB0_367.out; obtain ⟨hcz17_0, hcz17_1, hfz17_0, hfz17_1⟩ := cz2f BK367.out; have hX_ := hXk _ HK.out) | ((with_reducible refine gf 102 rfl ?_); refine gL (some 13) rfl rfl Tryd.func102 rfl #[.pointer (some ⟨gx, 0, none⟩), .slice A1_1 l1_1.length c1_1] rfl ?_; (with_reducible refine (runs_reader_word.calls k g s0_0 s0_1 s0_2 _ _ l1_1 t368 t369 t370 t371 w0 _ ?side1 ?side2 ?side3 ?side4 ?side5 gx (fun W_ h_ => hXk W_ (KeepBut.trans (by repeat (first | (with_reducible first | exact HK.out | apply KeepBut.set_ | apply keep_drewN | apply keep_drew | apply keep_alloc | refine keep_far ?_ GW367.out _) | exact HK.out)) h_ (.inl rfl))) A3.out).mono ?_); (case side1 => repeat (first | (with_reducible first | exact HI0.out | apply IsS140.alloc | apply IsS140.drewN | apply IsS140.drew | apply IsS140.set_1 | apply IsS140.set_2 | refine IsS140.far ?_ NB0_367.out _) | exact HI0.out)); (case side2 => repeat (first | (with_reducible first | exact HB.out | apply below_alloc | apply pw_below_drewN | apply below_drew1 | refine below_set ?_ (IsS140.ge HI0.out) | refine below_set ?_ GE367.out) | exact HB.out)); (case side3 => exact Kd.C_keep (⟨#[]⟩ : ByteArray) HR1_1.out (by repeat (first | (with_reducible first | exact HK.out | apply KeepBut.set_ | apply keep_drewN | apply keep_drew | apply keep_alloc | refine keep_far ?_ GW367.out _) | exact HK.out)) hf1_1); (case side4 => exact HC1_1.out); (case side5 => exact hf1_1); rintro e w18 ⟨rfl, hi, hb, hk⟩; refine ⟨_, rfl, ?_⟩; have n_ := aC (KeepBut.blk hk (g' := gb367) (o := .cells #[.slice A1_0 l1_0.length c1_0, .slice A1_1 l1_1.length c1_1] 107 (0, 0)) (bU BK367.out) NB367_0.out (by simp)) (aC (KeepBut.trans (by repeat (first | (with_reducible first | exact HK.out | apply KeepBut.set_ | apply keep_drewN | apply keep_drew | apply keep_alloc | refine keep_far ?_ GW367.out _) | exact HK.out)) hk (.inl rfl)) (aC hb (aE hi))); clear BK367 HK HB HI0; obtain ⟨BK367, HK, HB, HI0⟩ := n_; (try clear hb); have hX_ := hXk _ HK.out))
  go_ret2
  exact ⟨re, by repeat (first | (with_reducible first | exact HI0.out | apply IsS140.alloc | apply IsS140.drewN | apply IsS140.drew | apply IsS140.set_1 | apply IsS140.set_2 | refine IsS140.far ?_ NB0_367.out _) | exact HI0.out), by repeat (first | (with_reducible first | exact HB.out | apply below_alloc | apply pw_below_drewN | apply below_drew1 | refine below_set ?_ (IsS140.ge HI0.out) | refine below_set ?_ GE367.out) | exact HB.out), by repeat (first | (with_reducible first | exact HK.out | apply KeepBut.set_ | apply keep_drewN | apply keep_drew | apply keep_alloc | refine keep_far ?_ GW367.out _) | exact HK.out)⟩

/-! ### runs_reader_run: function 81 (by hand) -/
/-- What a reader of runs holds beside its bits: its tables and words; they stay, whatever the bits' block comes to hold. -/
def Xok (g gx : Nat) (U C0 C1 : List S87 × List ByteArray) (ws : List ByteArray) (w : World) : Prop :=
 ∃ (a1 a2 a3 a4 a5 a6 a7 : Option Addr) (c1 c2 c3 c4 c5 c6 c7 : Nat),
  (U.1.length ≤ c1 ∧ U.2.length ≤ c2 ∧ C0.1.length ≤ c3 ∧ C0.2.length ≤ c4 ∧ C1.1.length ≤ c5 ∧ C1.2.length ≤ c6 ∧ ws.length ≤ c7) ∧
  ((∀ ad, a2 = some ad → 0 < U.2.length → ad.block ≠ g) ∧ (∀ ad, a4 = some ad → 0 < C0.2.length → ad.block ≠ g) ∧ (∀ ad, a6 = some ad → 0 < C1.2.length → ad.block ≠ g) ∧ (∀ ad, a7 = some ad → 0 < ws.length → ad.block ≠ g)) ∧
  ∀ W_ : World, KeepBut w W_ g none →
   W_.heap[gx]? = some (.cells #[.pointer (some ⟨g, 0, none⟩), .slice a1 U.1.length c1, .slice a2 U.2.length c2, .slice a3 C0.1.length c3, .slice a4 C0.2.length c4, .slice a5 C1.1.length c5, .slice a6 C1.2.length c6, .slice a7 ws.length c7] 110 (0, 0)) ∧
   Kd.C k87 W_ a1 U.1.length U.1 ∧ Kd.C Kd.string W_ a2 U.2.length U.2 ∧ Kd.C k87 W_ a3 C0.1.length C0.1 ∧ Kd.C Kd.string W_ a4 C0.2.length C0.2 ∧ Kd.C k87 W_ a5 C1.1.length C1.1 ∧ Kd.C Kd.string W_ a6 C1.2.length C1.2 ∧ Kd.C Kd.string W_ a7 ws.length ws
theorem Xok.keep {g gx : Nat} {U C0 C1 : List S87 × List ByteArray} {ws : List ByteArray} {w w' : World} (h : Xok g gx U C0 C1 ws w) (k : KeepBut w w' g none) : Xok g gx U C0 C1 ws w' := by
 obtain ⟨a1, a2, a3, a4, a5, a6, a7, c1, c2, c3, c4, c5, c6, c7, hl, hf, hW⟩ := h
 exact ⟨a1, a2, a3, a4, a5, a6, a7, c1, c2, c3, c4, c5, c6, c7, hl, hf, fun W_ q => hW W_ (k.trans q (.inl rfl))⟩
def runs_reader_runG.f (k : Nat) (U C0 C1 : List S87 × List ByteArray) (s0_0 : List Int) (s0_1 : Int) (s0_2 : Bool) (c : Int) : Option (Int × Int × Int × Bool) :=
 (runs_reader_number.f k s0_0 s0_1 s0_2 U.1 U.2).bind fun n => (if n.2.1 = 0 then
  ((runs_reader_number.f k s0_0 n.2.2.1 n.2.2.2 (if c = 0 then C0.1 else C1.1) (if c = 0 then C0.2 else C1.2)).bind fun m => (if m.2.1 = 0 then
   (if m.1 ≥ 64 then some (0, 3, m.2.2.1, m.2.2.2) else some (wrap64 (wrap64 (n.1 * 64) + m.1), 0, m.2.2.1, m.2.2.2)) else some (0, m.2.1, m.2.2.1, m.2.2.2)))
  else some (0, n.2.1, n.2.2.1, n.2.2.2))
set_option maxHeartbeats 8000000 in
set_option maxRecDepth 100000 in
theorem runs_reader_runG.calls (k : Nat) (g gx : Nat) (U C0 C1 : List S87 × List ByteArray) (ws : List ByteArray) (s0_0 : List Int) (s0_1 : Int) (s0_2 : Bool) (c : Int) (hc : c = 0 ∨ c = 1) (r1 r2 r3 : Int) (r4 : Bool) (w0 w : World) (hI : IsS140 w0 w g s0_0 s0_1 s0_2) (hB : Below w0.heap.size w0 w) (hX : Xok g gx U C0 C1 ws w)
  (h : runs_reader_runG.f k U C0 C1 s0_0 s0_1 s0_2 c = some (r1, r2, r3, r4)) :
  Calls Tryd.prog 81 #[.pointer (some ⟨gx, 0, none⟩), .int .i64 c] w fun e w' => e = .returned (.tuple #[.int .i64 r1, .int .i64 r2]) ∧ IsS140 w0 w' g s0_0 r3 r4 ∧ Below w0.heap.size w0 w' ∧ KeepBut w w' g none := by
 have hu110 := Tryd.underlying110
 have hu107 := Tryd.underlying107
 have hu108 := Tryd.underlying108
 unfold runs_reader_runG.f at h
 obtain ⟨⟨n1, n2, n3, n4⟩, A1, h⟩ := Option.bind_eq_some_iff.mp h
 replace h : (if n2 = 0 then _ else _) = some (r1, r2, r3, r4) := h
 obtain ⟨a1, a2, a3, a4, a5, a6, a7, c1, c2, c3, c4, c5, c6, c7, ⟨l1, l2, l3, l4, l5, l6, l7⟩, ⟨f2, f4, f6, f7⟩, hW⟩ := hX
 have HW := Aside0.mk hW
 clear hW
 have cells : ∀ W_ : World, KeepBut w W_ g none → _ := fun W_ q => cz8f (HW.out W_ q).1
 have CL := Aside0.mk cells
 clear cells
 have A1' := Aside0.mk A1
 clear A1
 have HH := Aside0.mk h
 clear h
 obtain ⟨hx0, hx1, hx2, hx3, hx4, hx5, hx6, hx7, _⟩ := CL.out w (KeepBut.refl w g none)
 have n2z : n2 = 0 ∨ n2 ≠ 0 := by omega
 rcases n2z with z | z
 ·subst z
  have hh := HH.out
  rw [if_pos rfl] at hh
  clear HH
  obtain ⟨⟨m1, m2, m3, m4⟩, A2, hh⟩ := Option.bind_eq_some_iff.mp hh
  replace hh : (if m2 = 0 then (if m1 ≥ 64 then some (0, 3, m3, m4) else some (wrap64 (wrap64 (n1 * 64) + m1), 0, m3, m4)) else some (0, m2, m3, m4)) = some (r1, r2, r3, r4) := hh
  have HH := Aside0.mk hh
  clear hh
  have A2' := Aside0.mk A2
  clear A2
  have step1 : ∀ w1 : World, KeepBut w w1 g none → IsS140 w0 w1 g s0_0 n3 n4 → Below w0.heap.size w0 w1 → ∀ (a : Option Addr) (cc : Nat) (b : Option Addr) (cb : Nat) (x : List S87) (y : List ByteArray), x.length ≤ cc → y.length ≤ cb → (∀ ad, b = some ad → 0 < y.length → ad.block ≠ g) → (∀ W_ : World, KeepBut w W_ g none → Kd.C k87 W_ a x.length x ∧ Kd.C Kd.string W_ b y.length y) →
    runs_reader_number.f k s0_0 n3 n4 x y = some (m1, m2, m3, m4) →
    Calls Tryd.prog 98 #[.pointer (some ⟨gx, 0, none⟩), .agg #[.slice a x.length cc, .slice b y.length cb]] w1 fun e w' => e = .returned (.tuple #[.int .i64 m1, .int .i64 m2]) ∧ IsS140 w0 w' g s0_0 m3 m4 ∧ Below w0.heap.size w0 w' ∧ KeepBut w w' g none := by
   intro w1 hk hi hb a cc b cb x y hx hy hbf hR hA
   refine (runs_reader_number.calls k g s0_0 n3 n4 _ _ x _ _ y m1 m2 m3 m4 w0 _ hi hb (fun W_ q => (hR W_ (hk.trans q (.inl rfl))).1) hx (hR w1 hk).2 hy hbf gx (fun W_ q => (CL.out W_ (hk.trans q (.inl rfl))).1) hA).mono ?_
   rintro e w2 ⟨h1, h2, h3, h4⟩
   exact ⟨h1, h2, h3, hk.trans h4 (.inl rfl)⟩
  have S1 := Aside0.mk step1
  clear step1
  rcases hc with z | z
  ·subst z
   have A3 := Aside0.mk (show runs_reader_number.f k s0_0 n3 n4 C0.1 C0.2 = some (m1, m2, m3, m4) from A2'.out)
   clear A2'
   by_cases q2 : m2 = 0
   ·subst q2
    have hh := HH.out
    rw [if_pos rfl] at hh
    clear HH
    by_cases q3 : m1 ≥ 64
    ·rw [if_pos q3] at hh
     have q3b : decide (64 ≤ m1) = true := decide_eq_true q3
     simp only [Option.some.injEq, Prod.mk.injEq] at hh
     obtain ⟨rfl, rfl, rfl, rfl⟩ := hh
     go_enter Tryd.func81, Tryd.ntmps81
     go_wp2_with (first | ((with_reducible refine gf 98 rfl ?_); refine gL (some 15) rfl rfl Tryd.func98 rfl #[.pointer (some ⟨gx, 0, none⟩), .agg #[.slice a1 U.1.length c1, .slice a2 U.2.length c2]] rfl ?_; (with_reducible refine (runs_reader_number.calls k g s0_0 s0_1 s0_2 _ _ U.1 _ _ U.2 n1 0 n3 n4 w0 _ hI hB (fun W_ q => (HW.out W_ q).2.1) l1 (HW.out _ (KeepBut.refl _ g none)).2.2.1 l2 f2 gx (fun W_ q => (CL.out W_ q).1) A1'.out).mono ?_); rintro e w1 ⟨rfl, hi, hb, hk⟩; refine ⟨_, rfl, ?_⟩; obtain ⟨hy0, hy1, hy2, hy3, hy4, hy5, hy6, hy7, _⟩ := CL.out w1 hk) | ((with_reducible refine gf 98 rfl ?_); refine gL (some 29) rfl rfl Tryd.func98 rfl #[.pointer (some ⟨gx, 0, none⟩), .agg #[.slice a3 C0.1.length c3, .slice a4 C0.2.length c4]] rfl ?_; (with_reducible refine (S1.out _ hk hi hb a3 c3 a4 c4 C0.1 C0.2 l3 l4 f4 (fun W_ q => ⟨(HW.out W_ q).2.2.2.1, (HW.out W_ q).2.2.2.2.1⟩) A3.out).mono ?_); rintro e w2 ⟨rfl, hi2, hb2, hk2⟩; refine ⟨_, rfl, ?_⟩))
     go_ret2
     exact ⟨re, hi2, hb2, hk2⟩
    ·rw [if_neg q3] at hh
     have q3b : decide (64 ≤ m1) = false := decide_eq_false q3
     simp only [Option.some.injEq, Prod.mk.injEq] at hh
     obtain ⟨rfl, rfl, rfl, rfl⟩ := hh
     go_enter Tryd.func81, Tryd.ntmps81
     go_wp2_with (first | ((with_reducible refine gf 98 rfl ?_); refine gL (some 15) rfl rfl Tryd.func98 rfl #[.pointer (some ⟨gx, 0, none⟩), .agg #[.slice a1 U.1.length c1, .slice a2 U.2.length c2]] rfl ?_; (with_reducible refine (runs_reader_number.calls k g s0_0 s0_1 s0_2 _ _ U.1 _ _ U.2 n1 0 n3 n4 w0 _ hI hB (fun W_ q => (HW.out W_ q).2.1) l1 (HW.out _ (KeepBut.refl _ g none)).2.2.1 l2 f2 gx (fun W_ q => (CL.out W_ q).1) A1'.out).mono ?_); rintro e w1 ⟨rfl, hi, hb, hk⟩; refine ⟨_, rfl, ?_⟩; obtain ⟨hy0, hy1, hy2, hy3, hy4, hy5, hy6, hy7, _⟩ := CL.out w1 hk) | ((with_reducible refine gf 98 rfl ?_); refine gL (some 29) rfl rfl Tryd.func98 rfl #[.pointer (some ⟨gx, 0, none⟩), .agg #[.slice a3 C0.1.length c3, .slice a4 C0.2.length c4]] rfl ?_; (with_reducible refine (S1.out _ hk hi hb a3 c3 a4 c4 C0.1 C0.2 l3 l4 f4 (fun W_ q => ⟨(HW.out W_ q).2.2.2.1, (HW.out W_ q).2.2.2.2.1⟩) A3.out).mono ?_); rintro e w2 ⟨rfl, hi2, hb2, hk2⟩; refine ⟨_, rfl, ?_⟩))
     go_ret2
     exact ⟨re, hi2, hb2, hk2⟩
   ·have hh := HH.out
    rw [if_neg q2] at hh
    have q2b : (m2 != 0) = true := by simpa using q2
    clear HH
    simp only [Option.some.injEq, Prod.mk.injEq] at hh
    obtain ⟨rfl, rfl, rfl, rfl⟩ := hh
    go_enter Tryd.func81, Tryd.ntmps81
    go_wp2_with (first | ((with_reducible refine gf 98 rfl ?_); refine gL (some 15) rfl rfl Tryd.func98 rfl #[.pointer (some ⟨gx, 0, none⟩), .agg #[.slice a1 U.1.length c1, .slice a2 U.2.length c2]] rfl ?_; (with_reducible refine (runs_reader_number.calls k g s0_0 s0_1 s0_2 _ _ U.1 _ _ U.2 n1 0 n3 n4 w0 _ hI hB (fun W_ q => (HW.out W_ q).2.1) l1 (HW.out _ (KeepBut.refl _ g none)).2.2.1 l2 f2 gx (fun W_ q => (CL.out W_ q).1) A1'.out).mono ?_); rintro e w1 ⟨rfl, hi, hb, hk⟩; refine ⟨_, rfl, ?_⟩; obtain ⟨hy0, hy1, hy2, hy3, hy4, hy5, hy6, hy7, _⟩ := CL.out w1 hk) | ((with_reducible refine gf 98 rfl ?_); refine gL (some 29) rfl rfl Tryd.func98 rfl #[.pointer (some ⟨gx, 0, none⟩), .agg #[.slice a3 C0.1.length c3, .slice a4 C0.2.length c4]] rfl ?_; (with_reducible refine (S1.out _ hk hi hb a3 c3 a4 c4 C0.1 C0.2 l3 l4 f4 (fun W_ q => ⟨(HW.out W_ q).2.2.2.1, (HW.out W_ q).2.2.2.2.1⟩) A3.out).mono ?_); rintro e w2 ⟨rfl, hi2, hb2, hk2⟩; refine ⟨_, rfl, ?_⟩))
    go_ret2
    exact ⟨re, hi2, hb2, hk2⟩
  ·subst z
   have A3 := Aside0.mk (show runs_reader_number.f k s0_0 n3 n4 C1.1 C1.2 = some (m1, m2, m3, m4) from A2'.out)
   clear A2'
   by_cases q2 : m2 = 0
   ·subst q2
    have hh := HH.out
    rw [if_pos rfl] at hh
    clear HH
    by_cases q3 : m1 ≥ 64
    ·rw [if_pos q3] at hh
     have q3b : decide (64 ≤ m1) = true := decide_eq_true q3
     simp only [Option.some.injEq, Prod.mk.injEq] at hh
     obtain ⟨rfl, rfl, rfl, rfl⟩ := hh
     go_enter Tryd.func81, Tryd.ntmps81
     go_wp2_with (first | ((with_reducible refine gf 98 rfl ?_); refine gL (some 15) rfl rfl Tryd.func98 rfl #[.pointer (some ⟨gx, 0, none⟩), .agg #[.slice a1 U.1.length c1, .slice a2 U.2.length c2]] rfl ?_; (with_reducible refine (runs_reader_number.calls k g s0_0 s0_1 s0_2 _ _ U.1 _ _ U.2 n1 0 n3 n4 w0 _ hI hB (fun W_ q => (HW.out W_ q).2.1) l1 (HW.out _ (KeepBut.refl _ g none)).2.2.1 l2 f2 gx (fun W_ q => (CL.out W_ q).1) A1'.out).mono ?_); rintro e w1 ⟨rfl, hi, hb, hk⟩; refine ⟨_, rfl, ?_⟩; obtain ⟨hy0, hy1, hy2, hy3, hy4, hy5, hy6, hy7, _⟩ := CL.out w1 hk) | ((with_reducible refine gf 98 rfl ?_); refine gL (some 29) rfl rfl Tryd.func98 rfl #[.pointer (some ⟨gx, 0, none⟩), .agg #[.slice a5 C1.1.length c5, .slice a6 C1.2.length c6]] rfl ?_; (with_reducible refine (S1.out _ hk hi hb a5 c5 a6 c6 C1.1 C1.2 l5 l6 f6 (fun W_ q => ⟨(HW.out W_ q).2.2.2.2.2.1, (HW.out W_ q).2.2.2.2.2.2.1⟩) A3.out).mono ?_); rintro e w2 ⟨rfl, hi2, hb2, hk2⟩; refine ⟨_, rfl, ?_⟩))
     go_ret2
     exact ⟨re, hi2, hb2, hk2⟩
    ·rw [if_neg q3] at hh
     have q3b : decide (64 ≤ m1) = false := decide_eq_false q3
     simp only [Option.some.injEq, Prod.mk.injEq] at hh
     obtain ⟨rfl, rfl, rfl, rfl⟩ := hh
     go_enter Tryd.func81, Tryd.ntmps81
     go_wp2_with (first | ((with_reducible refine gf 98 rfl ?_); refine gL (some 15) rfl rfl Tryd.func98 rfl #[.pointer (some ⟨gx, 0, none⟩), .agg #[.slice a1 U.1.length c1, .slice a2 U.2.length c2]] rfl ?_; (with_reducible refine (runs_reader_number.calls k g s0_0 s0_1 s0_2 _ _ U.1 _ _ U.2 n1 0 n3 n4 w0 _ hI hB (fun W_ q => (HW.out W_ q).2.1) l1 (HW.out _ (KeepBut.refl _ g none)).2.2.1 l2 f2 gx (fun W_ q => (CL.out W_ q).1) A1'.out).mono ?_); rintro e w1 ⟨rfl, hi, hb, hk⟩; refine ⟨_, rfl, ?_⟩; obtain ⟨hy0, hy1, hy2, hy3, hy4, hy5, hy6, hy7, _⟩ := CL.out w1 hk) | ((with_reducible refine gf 98 rfl ?_); refine gL (some 29) rfl rfl Tryd.func98 rfl #[.pointer (some ⟨gx, 0, none⟩), .agg #[.slice a5 C1.1.length c5, .slice a6 C1.2.length c6]] rfl ?_; (with_reducible refine (S1.out _ hk hi hb a5 c5 a6 c6 C1.1 C1.2 l5 l6 f6 (fun W_ q => ⟨(HW.out W_ q).2.2.2.2.2.1, (HW.out W_ q).2.2.2.2.2.2.1⟩) A3.out).mono ?_); rintro e w2 ⟨rfl, hi2, hb2, hk2⟩; refine ⟨_, rfl, ?_⟩))
     go_ret2
     exact ⟨re, hi2, hb2, hk2⟩
   ·have hh := HH.out
    rw [if_neg q2] at hh
    have q2b : (m2 != 0) = true := by simpa using q2
    clear HH
    simp only [Option.some.injEq, Prod.mk.injEq] at hh
    obtain ⟨rfl, rfl, rfl, rfl⟩ := hh
    go_enter Tryd.func81, Tryd.ntmps81
    go_wp2_with (first | ((with_reducible refine gf 98 rfl ?_); refine gL (some 15) rfl rfl Tryd.func98 rfl #[.pointer (some ⟨gx, 0, none⟩), .agg #[.slice a1 U.1.length c1, .slice a2 U.2.length c2]] rfl ?_; (with_reducible refine (runs_reader_number.calls k g s0_0 s0_1 s0_2 _ _ U.1 _ _ U.2 n1 0 n3 n4 w0 _ hI hB (fun W_ q => (HW.out W_ q).2.1) l1 (HW.out _ (KeepBut.refl _ g none)).2.2.1 l2 f2 gx (fun W_ q => (CL.out W_ q).1) A1'.out).mono ?_); rintro e w1 ⟨rfl, hi, hb, hk⟩; refine ⟨_, rfl, ?_⟩; obtain ⟨hy0, hy1, hy2, hy3, hy4, hy5, hy6, hy7, _⟩ := CL.out w1 hk) | ((with_reducible refine gf 98 rfl ?_); refine gL (some 29) rfl rfl Tryd.func98 rfl #[.pointer (some ⟨gx, 0, none⟩), .agg #[.slice a5 C1.1.length c5, .slice a6 C1.2.length c6]] rfl ?_; (with_reducible refine (S1.out _ hk hi hb a5 c5 a6 c6 C1.1 C1.2 l5 l6 f6 (fun W_ q => ⟨(HW.out W_ q).2.2.2.2.2.1, (HW.out W_ q).2.2.2.2.2.2.1⟩) A3.out).mono ?_); rintro e w2 ⟨rfl, hi2, hb2, hk2⟩; refine ⟨_, rfl, ?_⟩))
    go_ret2
    exact ⟨re, hi2, hb2, hk2⟩
 ·have q : (n2 != 0) = true := by simpa using z
  have hh := HH.out
  rw [if_neg z] at hh
  simp only [Option.some.injEq, Prod.mk.injEq] at hh
  obtain ⟨rfl, rfl, rfl, rfl⟩ := hh
  clear HH
  go_enter Tryd.func81, Tryd.ntmps81
  go_wp2_with (first | ((with_reducible refine gf 98 rfl ?_); refine gL (some 15) rfl rfl Tryd.func98 rfl #[.pointer (some ⟨gx, 0, none⟩), .agg #[.slice a1 U.1.length c1, .slice a2 U.2.length c2]] rfl ?_; (with_reducible refine (runs_reader_number.calls k g s0_0 s0_1 s0_2 _ _ U.1 _ _ U.2 n1 n2 n3 n4 w0 _ hI hB (fun W_ q => (HW.out W_ q).2.1) l1 (HW.out _ (KeepBut.refl _ g none)).2.2.1 l2 f2 gx (fun W_ q => (CL.out W_ q).1) A1'.out).mono ?_); rintro e w1 ⟨rfl, hi, hb, hk⟩; refine ⟨_, rfl, ?_⟩))
  go_ret2
  exact ⟨re, hi, hb, hk⟩
/-- The reader's tables: units, what is left of a white run and of a black one, and the words of modes. -/
def tU : List S87 × List ByteArray := ([⟨1, 0, 0, 0⟩, ⟨2, 1, 1, 0⟩, ⟨3, 3, 3, 0⟩, ⟨4, 5, 11, 0⟩, ⟨5, 8, 43, 0⟩, ⟨5, 20, 299, 0⟩], [⟨#[48]⟩, ⟨#[49, 48]⟩, ⟨#[49, 49, 48]⟩, ⟨#[49, 49, 49, 48]⟩, ⟨#[49, 49, 49, 49, 48]⟩, ⟨#[49, 49, 49, 49, 49]⟩])
def tC0 : List S87 × List ByteArray := ([⟨2, 2, 0, 0⟩, ⟨2, 3, 4, 0⟩, ⟨2, 4, 12, 0⟩, ⟨2, 6, 28, 0⟩], [⟨#[48, 48]⟩, ⟨#[48, 49]⟩, ⟨#[49, 48]⟩, ⟨#[49, 49]⟩])
def tC1 : List S87 × List ByteArray := ([⟨1, 1, 0, 0⟩, ⟨2, 1, 2, 0⟩, ⟨3, 2, 4, 0⟩, ⟨3, 6, 8, 0⟩], [⟨#[48]⟩, ⟨#[49, 48]⟩, ⟨#[49, 49, 48]⟩, ⟨#[49, 49, 49]⟩])
def tW : List ByteArray := [⟨#[48, 48, 48, 49]⟩, ⟨#[48, 48, 49]⟩, ⟨#[48, 48, 48, 48, 48, 49, 48]⟩, ⟨#[48, 48, 48, 48, 49, 48]⟩, ⟨#[48, 49, 48]⟩, ⟨#[49]⟩, ⟨#[48, 49, 49]⟩, ⟨#[48, 48, 48, 48, 49, 49]⟩, ⟨#[48, 48, 48, 48, 48, 49, 49]⟩]
def runs_reader_run.f (k : Nat) (s0_0 : List Int) (s0_1 : Int) (s0_2 : Bool) (a1 : Int) : Option (Int × Int × Int × Bool) :=
 if a1 = 0 ∨ a1 = 1 then runs_reader_runG.f k tU tC0 tC1 s0_0 s0_1 s0_2 a1 else none
theorem runs_reader_run.mono : ∀ a0 a1 a2 a3 k, LeO (runs_reader_run.f k a0 a1 a2 a3) (runs_reader_run.f (k + 1) a0 a1 a2 a3) := by
 intro a0 a1 a2 a3 k
 unfold runs_reader_run.f
 refine LeO.ite ?_ (LeO.refl _)
 unfold runs_reader_runG.f
 refine LeO.bind (runs_reader_number.mono _ _ _ _ _ k) (fun n => ?_)
 refine LeO.ite ?_ (LeO.refl _)
 exact LeO.bind (runs_reader_number.mono _ _ _ _ _ k) (fun m => LeO.refl _)
theorem runs_reader_run.calls (k : Nat) (g : Nat) (s0_0 : List Int) (s0_1 : Int) (s0_2 : Bool) (a1 : Int) (r1 r2 r3 : Int) (r4 : Bool) (w0 w : World) (hI : IsS140 w0 w g s0_0 s0_1 s0_2) (hB : Below w0.heap.size w0 w) (gx : Nat) (hX : Xok g gx tU tC0 tC1 tW w) (h : runs_reader_run.f k s0_0 s0_1 s0_2 a1 = some (r1, r2, r3, r4)) :
  Calls Tryd.prog 81 #[.pointer (some ⟨gx, 0, none⟩), .int .i64 a1] w fun e w' => e = .returned (.tuple #[.int .i64 r1, .int .i64 r2]) ∧ IsS140 w0 w' g s0_0 r3 r4 ∧ Below w0.heap.size w0 w' ∧ KeepBut w w' g none := by
 unfold runs_reader_run.f at h
 by_cases hc : a1 = 0 ∨ a1 = 1
 ·rw [if_pos hc] at h
  exact runs_reader_runG.calls k g gx tU tC0 tC1 tW s0_0 s0_1 s0_2 a1 hc r1 r2 r3 r4 w0 w hI hB hX h
 ·rw [if_neg hc] at h
  exact absurd h (by simp)

/-! ### runs_reader_one: function 54 -/
def runs_reader_one.l0 : Nat → Int → List Int → Int → List Int → Int → Bool → Option (List Int × Int × Int × Bool)
 | 0, _, _, _, _, _, _ => none
 | k + 1, x1, x8, x9, x1000, x1001, x1002 => if (x8.length : Int) < x1 then ((runs_reader_run.f k x1000 x1001 x1002 (Int.tmod x9 2)).bind fun bt378 => (if bt378.2.1 = 0 then (if bt378.1 = 0 then (if x9 > 0 then (some (([] : List Int), 3, bt378.2.2.1, bt378.2.2.2)) else (if bt378.1 > (wrap64 (x1 - (x8.length : Int))) then (some (([] : List Int), 3, bt378.2.2.1, bt378.2.2.2)) else ((slices_Repeat_byte_byte.f k (([(Int.tmod x9 2) % 256] : List Int)) bt378.1).bind fun t385 => (if x8.length + t385.length < 140737488355328 then (runs_reader_one.l0 k x1 (x8 ++ t385) (wrap64 (x9 + 1)) x1000 bt378.2.2.1 bt378.2.2.2) else (none))))) else (if bt378.1 > (wrap64 (x1 - (x8.length : Int))) then (some (([] : List Int), 3, bt378.2.2.1, bt378.2.2.2)) else ((slices_Repeat_byte_byte.f k (([(Int.tmod x9 2) % 256] : List Int)) bt378.1).bind fun t394 => (if x8.length + t394.length < 140737488355328 then (runs_reader_one.l0 k x1 (x8 ++ t394) (wrap64 (x9 + 1)) x1000 bt378.2.2.1 bt378.2.2.2) else (none))))) else (some (([] : List Int), bt378.2.1, bt378.2.2.1, bt378.2.2.2)))) else (some (x8, 0, x1001, x1002))
def runs_reader_one.f (k : Nat) (s0_0 : List Int) (s0_1 : Int) (s0_2 : Bool) (a1 : Int) (l2 : List Int) : Option (List Int × Int × Int × Bool) := runs_reader_one.l0 k a1 ([] : List Int) 0 s0_0 s0_1 s0_2
theorem runs_reader_one.mono_l : ∀ k, (∀ y0 y1 y2 y3 y4 y5, LeO (runs_reader_one.l0 k y0 y1 y2 y3 y4 y5) (runs_reader_one.l0 (k + 1) y0 y1 y2 y3 y4 y5))
 | 0 => fun _ _ _ _ _ _ r h => by simp [runs_reader_one.l0] at h
 | k + 1 => by
  have ih0 := runs_reader_one.mono_l k
  ·intro y0 y1 y2 y3 y4 y5
   unfold runs_reader_one.l0
   repeat' first
   | (with_reducible exact ih0 _ _ _ _ _ _)
   | (with_reducible exact runs_reader_run.mono _ _ _ _ _)
   | (with_reducible exact slices_Repeat_byte_byte.mono _ _ _)
   | (with_reducible first | exact LeO.refl _ | exact LeO.none _ | refine LeO.ite ?_ ?_ | refine LeO.bind ?_ (fun _ => ?_))
   | exact ih0 _ _ _ _ _ _
   | exact runs_reader_run.mono _ _ _ _ _
   | exact slices_Repeat_byte_byte.mono _ _ _
   | exact LeO.none _ | refine LeO.ite ?_ ?_ | refine LeO.bind ?_ (fun _ => ?_)
theorem runs_reader_one.mono : ∀ a0 a1 a2 a3 a4 k, LeO (runs_reader_one.f k a0 a1 a2 a3 a4) (runs_reader_one.f (k + 1) a0 a1 a2 a3 a4) := by
 intro a0 a1 a2 a3 a4 k
 have ih0 := runs_reader_one.mono_l k
 unfold runs_reader_one.f
 repeat' first
   | (with_reducible exact ih0 _ _ _ _ _ _)
   | (with_reducible exact runs_reader_run.mono _ _ _ _ _)
   | (with_reducible exact slices_Repeat_byte_byte.mono _ _ _)
   | (with_reducible first | exact LeO.refl _ | exact LeO.none _ | refine LeO.ite ?_ ?_ | refine LeO.bind ?_ (fun _ => ?_))
   | exact ih0 _ _ _ _ _ _
   | exact runs_reader_run.mono _ _ _ _ _
   | exact slices_Repeat_byte_byte.mono _ _ _
   | exact LeO.none _ | refine LeO.ite ?_ ?_ | refine LeO.bind ?_ (fun _ => ?_)
set_option maxHeartbeats 8000000 in
set_option maxRecDepth 100000 in
theorem runs_reader_one.calls (k : Nat) (g : Nat) (s0_0 : List Int) (s0_1 : Int) (s0_2 : Bool) (a1 : Int) (A2 : Option Addr) (c2 : Nat) (l2 : List Int) (r1 : List Int) (r2 : Int) (r3 : Int) (r4 : Bool) (w0 w : World) (hI : IsS140 w0 w g s0_0 s0_1 s0_2) (hB : Below w0.heap.size w0 w) (hr2 : Kd.C (Kd.int .u8) w A2 l2.length l2) (hc2 : l2.length ≤ c2) (hf2 : ∀ ad, A2 = some ad → 0 < l2.length → ad.block ≠ g) (gx : Nat) (hX : Xok g gx tU tC0 tC1 tW w) (h : runs_reader_one.f k s0_0 s0_1 s0_2 a1 l2 = some (r1, r2, r3, r4)) :
  Calls Tryd.prog 54 #[.pointer (some ⟨gx, 0, none⟩), .int .i64 a1, .slice A2 l2.length c2] w fun e w' => ∃ v0_ : Value, e = .returned (.tuple #[v0_, .int .i64 r2]) ∧ Kd.R (Kd.int .u8) 5 w' w.heap.size (fun _ => True) v0_ r1 ∧ IsS140 w0 w' g s0_0 r3 r4 ∧ Below w0.heap.size w0 w' ∧ KeepBut w w' g none := by
 have HR2 := Aside0.mk hr2
 have HC2 := Aside0.mk hc2
 clear hr2 hc2
 have HI0 := Aside0.mk hI
 have HK := Aside0.mk (KeepBut.refl w g none)
 have HL := Aside0.mk hB.size
 clear hI
 have HW0 := Aside0.mk hB.size
 have HB := Aside0.mk hB
 clear hB
 have H : (runs_reader_one.l0 k a1 ([] : List Int) 0 s0_0 s0_1 s0_2) = some (r1, r2, r3, r4) := h
 clear h
 have H' := Aside0.mk H
 clear H
 go_enter Tryd.func54, Tryd.ntmps54
 go_wp2
 go_loopg [8, 9] k (fun kq v8 v9 w' => ∃ (x8_1 : List Int) (x9_1 : Int) (x1001_1 : Int) (x1002_1 : Bool), v9 = .int .i64 x9_1 ∧ Aside0 (runs_reader_one.l0 kq a1 x8_1 x9_1 s0_0 x1001_1 x1002_1 = some (r1, r2, r3, r4)) ∧ Aside0 (kq ≤ k) ∧ Aside0 (Kd.R (Kd.int .u8) 5 w' w.heap.size (fun _ => True) v8 x8_1) ∧ Aside0 (IsS140 w0 w' g s0_0 x1001_1 x1002_1) ∧ Aside0 (KeepBut w w' g none) ∧ Aside0 (Below w0.heap.size w0 w'))
 case atStart => exact ⟨(([] : List Int)), (0), (s0_1), (s0_2), rq, H', ⟨Nat.le_refl _⟩, ⟨by first | exact Kd.R_nil _ _ _ _ _ | exact Kd.N_nil _ _ _ _ _ | exact Kd.V_nil _ _ _ _ _ | exact Kd.Q_nil _ _ _ _ _ | exact Kd.S_nil _ _ _ _ _⟩, ⟨by repeat (first | (with_reducible first | exact HI0.out | apply IsS140.alloc | apply IsS140.drewN | apply IsS140.drew | apply IsS140.set_1 | apply IsS140.set_2) | exact HI0.out)⟩, ⟨by repeat (first | (with_reducible first | exact HK.out | apply KeepBut.set_ | apply keep_drewN | apply keep_drew | apply keep_alloc) | exact HK.out)⟩, ⟨by repeat (first | (with_reducible first | exact HB.out | apply below_alloc | apply pw_below_drewN | apply below_drew1 | refine below_set ?_ (IsS140.ge HI0.out)) | exact HB.out)⟩⟩
 case round =>
  clear H'
  try clear c2
  obtain ⟨x8_1, x9_1, x1001_1, x1002_1, rfl, HA, HK1, HO_8, HI0, HK, HB⟩ := hrel
  cases gk with
  | zero => exact absurd HA.out (by simp [runs_reader_one.l0])
  | succ k1 =>
   have H := HA.out
   clear HA
   simp only [runs_reader_one.l0] at H
   by_cases c4 : (x8_1.length : Int) < a1
   ·rw [if_pos c4] at H
    have c4b0 := decide_eq_true c4
    clear c4
    replace H := Option.bind_eq_some_iff.mp H
    obtain ⟨⟨t378, t379, t380, t381⟩, A50, H⟩ := H
    replace H : (if t379 = 0 then (if t378 = 0 then (if x9_1 > 0 then (some (([] : List Int), 3, t380, t381)) else (if t378 > (wrap64 (a1 - (x8_1.length : Int))) then (some (([] : List Int), 3, t380, t381)) else ((slices_Repeat_byte_byte.f k1 (([(Int.tmod x9_1 2) % 256] : List Int)) t378).bind fun t385 => (if x8_1.length + t385.length < 140737488355328 then (runs_reader_one.l0 k1 a1 (x8_1 ++ t385) (wrap64 (x9_1 + 1)) s0_0 t380 t381) else (none))))) else (if t378 > (wrap64 (a1 - (x8_1.length : Int))) then (some (([] : List Int), 3, t380, t381)) else ((slices_Repeat_byte_byte.f k1 (([(Int.tmod x9_1 2) % 256] : List Int)) t378).bind fun t394 => (if x8_1.length + t394.length < 140737488355328 then (runs_reader_one.l0 k1 a1 (x8_1 ++ t394) (wrap64 (x9_1 + 1)) s0_0 t380 t381) else (none))))) else (some (([] : List Int), t379, t380, t381))) = some (r1, r2, r3, r4) := H
    have A5 := Aside0.mk A50
    clear A50
    by_cases c6 : t379 = 0
    ·rw [if_pos c6] at H
     have c6b0 := beq_iff_eq.mpr c6
     have c6b1 := bne_eq_false_iff_eq.mpr c6
     clear c6
     by_cases c7 : t378 = 0
     ·rw [if_pos c7] at H
      have c7b0 := beq_iff_eq.mpr c7
      have c7b1 := bne_eq_false_iff_eq.mpr c7
      clear c7
      by_cases c8 : x9_1 > 0
      ·rw [if_pos c8] at H
       have c8b0 := decide_eq_true c8
       clear c8
       simp only [Option.some.injEq, Prod.mk.injEq] at H
       obtain ⟨rfl, rfl, rfl, rfl⟩ := H
       obtain ⟨Ao9, co9, eo9⟩ := Kd.R_slice HO_8.out
       subst eo9
       go_wp2_with (first | ((with_reducible refine gf 81 rfl ?_); refine gL (some 22) rfl rfl Tryd.func81 rfl #[.pointer (some ⟨gx, 0, none⟩), .int .i64 (Int.tmod x9_1 2)] rfl ?_; (with_reducible refine (runs_reader_run.calls k1 g s0_0 x1001_1 x1002_1 (Int.tmod x9_1 2) t378 t379 t380 t381 w0 _ ?side1 ?side2 gx (hX.keep (by repeat (first | (with_reducible first | exact HK.out | apply KeepBut.set_ | apply keep_drewN | apply keep_drew | apply keep_alloc) | exact HK.out))) A5.out).mono ?_); (case side1 => repeat (first | (with_reducible first | exact HI0.out | apply IsS140.alloc | apply IsS140.drewN | apply IsS140.drew | apply IsS140.set_1 | apply IsS140.set_2) | exact HI0.out)); (case side2 => repeat (first | (with_reducible first | exact HB.out | apply below_alloc | apply pw_below_drewN | apply below_drew1 | refine below_set ?_ (IsS140.ge HI0.out)) | exact HB.out)); rintro e w10 ⟨rfl, hi, hb, hk⟩; refine ⟨_, rfl, ?_⟩; have n_ := aC (Kd.R_mono (Kd.R_keep (IsS140.apart (show IsS140 w0 _ g s0_0 x1001_1 x1002_1 from by repeat (first | (with_reducible first | exact HI0.out | apply IsS140.alloc | apply IsS140.drewN | apply IsS140.drew | apply IsS140.set_1 | apply IsS140.set_2) | exact HI0.out)) (rU HO_8.out) (by decide)) hk (fun _ h => h.2)) (fun _ h => h.1)) (aC (KeepBut.trans (by repeat (first | (with_reducible first | exact HK.out | apply KeepBut.set_ | apply keep_drewN | apply keep_drew | apply keep_alloc) | exact HK.out)) hk (.inl rfl)) (aC hb (aE hi))); clear HO_8 HK HB HI0; obtain ⟨HO_8, HK, HB, HI0⟩ := n_; (try clear hb)))
       go_ret2
       exact ⟨_, re, by first | exact Kd.R_nil _ _ _ _ _ | exact Kd.N_nil _ _ _ _ _ | exact Kd.V_nil _ _ _ _ _ | exact Kd.Q_nil _ _ _ _ _ | exact Kd.S_nil _ _ _ _ _, by repeat (first | (with_reducible first | exact HI0.out | apply IsS140.alloc | apply IsS140.drewN | apply IsS140.drew | apply IsS140.set_1 | apply IsS140.set_2) | exact HI0.out), by repeat (first | (with_reducible first | exact HB.out | apply below_alloc | apply pw_below_drewN | apply below_drew1 | refine below_set ?_ (IsS140.ge HI0.out)) | exact HB.out), by repeat (first | (with_reducible first | exact HK.out | apply KeepBut.set_ | apply keep_drewN | apply keep_drew | apply keep_alloc) | exact HK.out)⟩
      ·rw [if_neg c8] at H
       have c8b0 := decide_eq_false c8
       clear c8
       by_cases c11 : t378 > (wrap64 (a1 - (x8_1.length : Int)))
       ·rw [if_pos c11] at H
        have c11b0 := decide_eq_true c11
        clear c11
        simp only [Option.some.injEq, Prod.mk.injEq] at H
        obtain ⟨rfl, rfl, rfl, rfl⟩ := H
        obtain ⟨Ao12, co12, eo12⟩ := Kd.R_slice HO_8.out
        subst eo12
        go_wp2_with (first | ((with_reducible refine gf 81 rfl ?_); refine gL (some 22) rfl rfl Tryd.func81 rfl #[.pointer (some ⟨gx, 0, none⟩), .int .i64 (Int.tmod x9_1 2)] rfl ?_; (with_reducible refine (runs_reader_run.calls k1 g s0_0 x1001_1 x1002_1 (Int.tmod x9_1 2) t378 t379 t380 t381 w0 _ ?side1 ?side2 gx (hX.keep (by repeat (first | (with_reducible first | exact HK.out | apply KeepBut.set_ | apply keep_drewN | apply keep_drew | apply keep_alloc) | exact HK.out))) A5.out).mono ?_); (case side1 => repeat (first | (with_reducible first | exact HI0.out | apply IsS140.alloc | apply IsS140.drewN | apply IsS140.drew | apply IsS140.set_1 | apply IsS140.set_2) | exact HI0.out)); (case side2 => repeat (first | (with_reducible first | exact HB.out | apply below_alloc | apply pw_below_drewN | apply below_drew1 | refine below_set ?_ (IsS140.ge HI0.out)) | exact HB.out)); rintro e w13 ⟨rfl, hi, hb, hk⟩; refine ⟨_, rfl, ?_⟩; have n_ := aC (Kd.R_mono (Kd.R_keep (IsS140.apart (show IsS140 w0 _ g s0_0 x1001_1 x1002_1 from by repeat (first | (with_reducible first | exact HI0.out | apply IsS140.alloc | apply IsS140.drewN | apply IsS140.drew | apply IsS140.set_1 | apply IsS140.set_2) | exact HI0.out)) (rU HO_8.out) (by decide)) hk (fun _ h => h.2)) (fun _ h => h.1)) (aC (KeepBut.trans (by repeat (first | (with_reducible first | exact HK.out | apply KeepBut.set_ | apply keep_drewN | apply keep_drew | apply keep_alloc) | exact HK.out)) hk (.inl rfl)) (aC hb (aE hi))); clear HO_8 HK HB HI0; obtain ⟨HO_8, HK, HB, HI0⟩ := n_; (try clear hb)))
        go_ret2
        exact ⟨_, re, by first | exact Kd.R_nil _ _ _ _ _ | exact Kd.N_nil _ _ _ _ _ | exact Kd.V_nil _ _ _ _ _ | exact Kd.Q_nil _ _ _ _ _ | exact Kd.S_nil _ _ _ _ _, by repeat (first | (with_reducible first | exact HI0.out | apply IsS140.alloc | apply IsS140.drewN | apply IsS140.drew | apply IsS140.set_1 | apply IsS140.set_2) | exact HI0.out), by repeat (first | (with_reducible first | exact HB.out | apply below_alloc | apply pw_below_drewN | apply below_drew1 | refine below_set ?_ (IsS140.ge HI0.out)) | exact HB.out), by repeat (first | (with_reducible first | exact HK.out | apply KeepBut.set_ | apply keep_drewN | apply keep_drew | apply keep_alloc) | exact HK.out)⟩
       ·rw [if_neg c11] at H
        have c11b0 := decide_eq_false c11
        clear c11
        obtain ⟨y382, hy_⟩ : ∃ y_ : List Int, y_ = (([(Int.tmod x9_1 2) % 256] : List Int)) := ⟨_, rfl⟩
        replace H : ((slices_Repeat_byte_byte.f k1 y382 t378).bind fun t385 => (if x8_1.length + t385.length < 140737488355328 then (runs_reader_one.l0 k1 a1 (x8_1 ++ t385) (wrap64 (x9_1 + 1)) s0_0 t380 t381) else (none))) = some (r1, r2, r3, r4) := rh
        have Ny382 := aE hy_
        clear hy_
        replace H := Option.bind_eq_some_iff.mp H
        obtain ⟨t385, A140, H⟩ := H
        replace H : (if x8_1.length + t385.length < 140737488355328 then (runs_reader_one.l0 k1 a1 (x8_1 ++ t385) (wrap64 (x9_1 + 1)) s0_0 t380 t381) else (none)) = some (r1, r2, r3, r4) := H
        have A14 := Aside0.mk A140
        clear A140
        by_cases c15 : x8_1.length + t385.length < 140737488355328
        ·rw [if_pos c15] at H
         have LMc15 := Aside0.mk c15
         clear c15
         obtain ⟨y388, hy_⟩ : ∃ y_ : List Int, y_ = (x8_1 ++ t385) := ⟨_, rfl⟩
         replace H : (runs_reader_one.l0 k1 a1 y388 (wrap64 (x9_1 + 1)) s0_0 t380 t381) = some (r1, r2, r3, r4) := rh
         have Ny388 := aE hy_
         clear hy_
         have H' := Aside0.mk H
         clear H
         obtain ⟨Ao16, co16, eo16⟩ := Kd.R_slice HO_8.out
         subst eo16
         go_wp2_with (first | ((with_reducible refine gf 81 rfl ?_); refine gL (some 22) rfl rfl Tryd.func81 rfl #[.pointer (some ⟨gx, 0, none⟩), .int .i64 (Int.tmod x9_1 2)] rfl ?_; (with_reducible refine (runs_reader_run.calls k1 g s0_0 x1001_1 x1002_1 (Int.tmod x9_1 2) t378 t379 t380 t381 w0 _ ?side1 ?side2 gx (hX.keep (by repeat (first | (with_reducible first | exact HK.out | apply KeepBut.set_ | apply keep_drewN | apply keep_drew | apply keep_alloc) | exact HK.out))) A5.out).mono ?_); (case side1 => repeat (first | (with_reducible first | exact HI0.out | apply IsS140.alloc | apply IsS140.drewN | apply IsS140.drew | apply IsS140.set_1 | apply IsS140.set_2) | exact HI0.out)); (case side2 => repeat (first | (with_reducible first | exact HB.out | apply below_alloc | apply pw_below_drewN | apply below_drew1 | refine below_set ?_ (IsS140.ge HI0.out)) | exact HB.out)); rintro e w17 ⟨rfl, hi, hb, hk⟩; refine ⟨_, rfl, ?_⟩; have n_ := aC (Kd.R_mono (Kd.R_keep (IsS140.apart (show IsS140 w0 _ g s0_0 x1001_1 x1002_1 from by repeat (first | (with_reducible first | exact HI0.out | apply IsS140.alloc | apply IsS140.drewN | apply IsS140.drew | apply IsS140.set_1 | apply IsS140.set_2) | exact HI0.out)) (rU HO_8.out) (by decide)) hk (fun _ h => h.2)) (fun _ h => h.1)) (aC (KeepBut.trans (by repeat (first | (with_reducible first | exact HK.out | apply KeepBut.set_ | apply keep_drewN | apply keep_drew | apply keep_alloc) | exact HK.out)) hk (.inl rfl)) (aC hb (aE hi))); clear HO_8 HK HB HI0; obtain ⟨HO_8, HK, HB, HI0⟩ := n_; (try clear hb)) | ((with_reducible refine gd 46 rfl ?_); (try (refine gate_guard (by rfl) ?_; dsimp only)); refine Kd.R_lit (Kd.int .u8) _ 5 ?hg (N := 46) ?hd (xs := ([(Int.tmod x9_1 2) % 256] : List Int)) (inner := [.int .u8 ((Int.tmod x9_1 2) % 256)]) (ok := fun _ => True) (okp := fun _ => True) ?hr ?hp (fun _ hk => hk) trivial (Below.refl _ _) (Nat.le_refl _) (by simp) ?_; (case hd => rfl); (case hg => rfl); (case hr => first | (go_simp; done) | (go_simp; rfl)); (case hp => exact (Reps.one (show Kd.M (Kd.int .u8) _ _ _ ((Int.tmod x9_1 2) % 256) [.int .u8 ((Int.tmod x9_1 2) % 256)] from rfl) (Reps.none _ _))); intro v383 w18 ho19 hb hg_ hnew_; clear hg_ hnew_; (first | rw [← Ny382.out] at ho19 | (simp only [Int.reduceToNat] at ho19; rw [← Ny382.out] at ho19)); have n_ := aC (Kd.R_elder' (rU HO_8.out) (Kd.R_base ho19) hb) (aC (Kd.R_lower (Kd.R_new' ho19 (Kd.R_lt (rU HO_8.out))) (keep_size (w := w) (g := g) (row := none) (by repeat (first | (with_reducible first | exact HK.out | apply KeepBut.set_ | apply keep_drewN | apply keep_drew | apply keep_alloc) | exact HK.out)))) (aC (IsS140.below (by repeat (first | (with_reducible first | exact HI0.out | apply IsS140.alloc | apply IsS140.drewN | apply IsS140.drew | apply IsS140.set_1 | apply IsS140.set_2) | exact HI0.out)) hb) (aC (KeepBut.trans (by repeat (first | (with_reducible first | exact HK.out | apply KeepBut.set_ | apply keep_drewN | apply keep_drew | apply keep_alloc) | exact HK.out)) (KeepBut.of_below hb g none) (.inl rfl)) (aE (below_step (by repeat (first | (with_reducible first | exact HB.out | apply below_alloc | apply pw_below_drewN | apply below_drew1 | refine below_set ?_ (IsS140.ge HI0.out)) | exact HB.out)) hb))))); clear HO_8 HI0 HK HB; obtain ⟨HO_8, HO384, HI0, HK, HB⟩ := n_; clear hb ho19; obtain ⟨Ao20, co20, eo20⟩ := Kd.R_slice HO384.out; subst eo20) | ((with_reducible refine gf 45 rfl ?_); refine gL (some 48) rfl rfl Tryd.func45 rfl #[.slice Ao20 y382.length co20, .int .i64 t378] rfl ?_; (with_reducible refine (slices_Repeat_byte_byte.calls k1 _ _ y382 t378 t385 _ ?side1 ?side2 A14.out).mono ?_); (case side1 => exact cU (Kd.R_reads' HO384.out).2.2); (case side2 => exact (Kd.R_reads' HO384.out).2.1); rintro e w21 ⟨v386, rfl, ho0, hb⟩; refine ⟨_, rfl, ?_⟩; have n_ := aC (Kd.R_elder' (rU HO_8.out) (Kd.R_base ho0) hb) (aC (Kd.R_elder' (rU HO384.out) (Kd.R_base ho0) hb) (aC (Kd.R_lower (Kd.R_new' (Kd.R_new' ho0 (Kd.R_lt (rU HO_8.out))) (Kd.R_lt (rU HO384.out))) (keep_size (w := w) (g := g) (row := none) (by repeat (first | (with_reducible first | exact HK.out | apply KeepBut.set_ | apply keep_drewN | apply keep_drew | apply keep_alloc) | exact HK.out)))) (aC (IsS140.below (by repeat (first | (with_reducible first | exact HI0.out | apply IsS140.alloc | apply IsS140.drewN | apply IsS140.drew | apply IsS140.set_1 | apply IsS140.set_2) | exact HI0.out)) hb) (aC (KeepBut.trans (by repeat (first | (with_reducible first | exact HK.out | apply KeepBut.set_ | apply keep_drewN | apply keep_drew | apply keep_alloc) | exact HK.out)) (KeepBut.of_below hb g none) (.inl rfl)) (aE (below_step (by repeat (first | (with_reducible first | exact HB.out | apply below_alloc | apply pw_below_drewN | apply below_drew1 | refine below_set ?_ (IsS140.ge HI0.out)) | exact HB.out)) hb)))))); clear HO_8 HO384 HI0 HK HB; obtain ⟨HO_8, HO384, HO387, HI0, HK, HB⟩ := n_; (try clear hb); (try clear ho0); obtain ⟨Ao23, co23, eo23⟩ := Kd.R_slice HO387.out; subst eo23) | ((with_reducible refine gate_builtin (b := .append) (xs := #[.tmp 42, .tmp 48]) rfl ?_); (try (refine gate_guard (by rfl) ?_; dsimp only)); at_builtin; refine Kd.R_append_rows (Kd.int .u8) w.heap.size rfl (.tmp 42) (.tmp 48) 22 5 (.int .u8 0) 1 rfl Tryd.underlying22 info5 rfl (by decide) (by omega) (.slice Ao16 x8_1.length co16) x8_1 t385 _ _ _ (fun k_ => some k_ ≠ (.slice Ao20 y382.length co20 : Value).ownBlock ∧ some k_ ≠ (.slice Ao23 t385.length co23 : Value).ownBlock) (fun _ => False) rfl rfl ?aO ?aR (fun _ _ h => h) (fun _ h => h.elim) ?aF (Below.refl _ _) ?aS ?aL ?_; (case aR => repeat (first | exact (Kd.R_reads' HO387.out).2.2 | (with_reducible refine Kd.C_alloc ?_ _) | (with_reducible refine Kd.C_drewN ?_ _) | (with_reducible refine Kd.C_drew ?_))); (case aF => exact (fun k_ hk => ⟨Kd.fresh' (Kd.R_lt (rU HO384.out)) k_ hk, Kd.fresh' (Kd.R_lt (rU HO387.out)) k_ hk⟩)); (case aO => exact (rU (Kd.R_mono HO_8.out (fun _ hk => ⟨hk.1.2, hk.2⟩)))); (case aS => exact (keep_size (w := w) (g := g) (row := none) (by repeat (first | (with_reducible first | exact HK.out | apply KeepBut.set_ | apply keep_drewN | apply keep_drew | apply keep_alloc) | exact HK.out)))); (case aL => have := LMc15.out; omega); intro v389 w22 ho hb hg hat; rw [← Ny388.out] at ho; have n_ := aC (IsS140.grown (by repeat (first | (with_reducible first | exact HI0.out | apply IsS140.alloc | apply IsS140.drewN | apply IsS140.drew | apply IsS140.set_1 | apply IsS140.set_2) | exact HI0.out)) hg (IsS140.own_ne HI0.out HO_8.out (by decide))) (aC (Kd.R_after (ok := (fun k_ => some k_ ≠ (.slice Ao23 t385.length co23 : Value).ownBlock)) (rU (Kd.R_mono HO384.out (fun _ hk => ⟨hk.2, hk.1.2⟩))) hg hat) (aC (Kd.R_after (ok := (fun k_ => some k_ ≠ (.slice Ao20 y382.length co20 : Value).ownBlock)) (rU (Kd.R_mono HO387.out (fun _ hk => ⟨hk.2, hk.1.2⟩))) hg hat) (aC (below_weaken (by repeat (first | (with_reducible first | exact HB.out | apply below_alloc | apply pw_below_drewN | apply below_drew1 | refine below_set ?_ (IsS140.ge HI0.out)) | exact HB.out)) HL.out hb) (aC (KeepBut.trans (by repeat (first | (with_reducible first | exact HK.out | apply KeepBut.set_ | apply keep_drewN | apply keep_drew | apply keep_alloc) | exact HK.out)) (KeepBut.of_grown hg g) (Kd.R_base2 HO_8.out)) (aE ho))))); clear HI0 HO384 HO387 HB HK HO_8; obtain ⟨HI0, HO384, HO387, HB, HK, HO390⟩ := n_; clear ho hb hg hat))
         go_roundg k1
         case measure => have := HK1.out; omega
         case rel => exact ⟨(y388), (wrap64 (x9_1 + 1)), (t380), (t381), rq, H', ⟨by have := HK1.out; omega⟩, ⟨rU (Kd.R_mono HO390.out (fun _ hk => trivial))⟩, ⟨by repeat (first | (with_reducible first | exact HI0.out | apply IsS140.alloc | apply IsS140.drewN | apply IsS140.drew | apply IsS140.set_1 | apply IsS140.set_2) | exact HI0.out)⟩, ⟨by repeat (first | (with_reducible first | exact HK.out | apply KeepBut.set_ | apply keep_drewN | apply keep_drew | apply keep_alloc) | exact HK.out)⟩, ⟨by repeat (first | (with_reducible first | exact HB.out | apply below_alloc | apply pw_below_drewN | apply below_drew1 | refine below_set ?_ (IsS140.ge HI0.out)) | exact HB.out)⟩⟩
        ·rw [if_neg c15] at H
         exact absurd H (by simp)
     ·rw [if_neg c7] at H
      have c7b0 := beq_eq_false_iff_ne.mpr c7
      have c7b1 := bne_iff_ne.mpr c7
      by_cases c24 : t378 > (wrap64 (a1 - (x8_1.length : Int)))
      ·rw [if_pos c24] at H
       have c24b0 := decide_eq_true c24
       clear c24
       simp only [Option.some.injEq, Prod.mk.injEq] at H
       obtain ⟨rfl, rfl, rfl, rfl⟩ := H
       obtain ⟨Ao25, co25, eo25⟩ := Kd.R_slice HO_8.out
       subst eo25
       go_wp2_with (first | ((with_reducible refine gf 81 rfl ?_); refine gL (some 22) rfl rfl Tryd.func81 rfl #[.pointer (some ⟨gx, 0, none⟩), .int .i64 (Int.tmod x9_1 2)] rfl ?_; (with_reducible refine (runs_reader_run.calls k1 g s0_0 x1001_1 x1002_1 (Int.tmod x9_1 2) t378 t379 t380 t381 w0 _ ?side1 ?side2 gx (hX.keep (by repeat (first | (with_reducible first | exact HK.out | apply KeepBut.set_ | apply keep_drewN | apply keep_drew | apply keep_alloc) | exact HK.out))) A5.out).mono ?_); (case side1 => repeat (first | (with_reducible first | exact HI0.out | apply IsS140.alloc | apply IsS140.drewN | apply IsS140.drew | apply IsS140.set_1 | apply IsS140.set_2) | exact HI0.out)); (case side2 => repeat (first | (with_reducible first | exact HB.out | apply below_alloc | apply pw_below_drewN | apply below_drew1 | refine below_set ?_ (IsS140.ge HI0.out)) | exact HB.out)); rintro e w26 ⟨rfl, hi, hb, hk⟩; refine ⟨_, rfl, ?_⟩; have n_ := aC (Kd.R_mono (Kd.R_keep (IsS140.apart (show IsS140 w0 _ g s0_0 x1001_1 x1002_1 from by repeat (first | (with_reducible first | exact HI0.out | apply IsS140.alloc | apply IsS140.drewN | apply IsS140.drew | apply IsS140.set_1 | apply IsS140.set_2) | exact HI0.out)) (rU HO_8.out) (by decide)) hk (fun _ h => h.2)) (fun _ h => h.1)) (aC (KeepBut.trans (by repeat (first | (with_reducible first | exact HK.out | apply KeepBut.set_ | apply keep_drewN | apply keep_drew | apply keep_alloc) | exact HK.out)) hk (.inl rfl)) (aC hb (aE hi))); clear HO_8 HK HB HI0; obtain ⟨HO_8, HK, HB, HI0⟩ := n_; (try clear hb)))
       go_ret2
       exact ⟨_, re, by first | exact Kd.R_nil _ _ _ _ _ | exact Kd.N_nil _ _ _ _ _ | exact Kd.V_nil _ _ _ _ _ | exact Kd.Q_nil _ _ _ _ _ | exact Kd.S_nil _ _ _ _ _, by repeat (first | (with_reducible first | exact HI0.out | apply IsS140.alloc | apply IsS140.drewN | apply IsS140.drew | apply IsS140.set_1 | apply IsS140.set_2) | exact HI0.out), by repeat (first | (with_reducible first | exact HB.out | apply below_alloc | apply pw_below_drewN | apply below_drew1 | refine below_set ?_ (IsS140.ge HI0.out)) | exact HB.out), by repeat (first | (with_reducible first | exact HK.out | apply KeepBut.set_ | apply keep_drewN | apply keep_drew | apply keep_alloc) | exact HK.out)⟩
      ·rw [if_neg c24] at H
       have c24b0 := decide_eq_false c24
       clear c24
       obtain ⟨y391, hy_⟩ : ∃ y_ : List Int, y_ = (([(Int.tmod x9_1 2) % 256] : List Int)) := ⟨_, rfl⟩
       replace H : ((slices_Repeat_byte_byte.f k1 y391 t378).bind fun t394 => (if x8_1.length + t394.length < 140737488355328 then (runs_reader_one.l0 k1 a1 (x8_1 ++ t394) (wrap64 (x9_1 + 1)) s0_0 t380 t381) else (none))) = some (r1, r2, r3, r4) := rh
       have Ny391 := aE hy_
       clear hy_
       replace H := Option.bind_eq_some_iff.mp H
       obtain ⟨t394, A270, H⟩ := H
       replace H : (if x8_1.length + t394.length < 140737488355328 then (runs_reader_one.l0 k1 a1 (x8_1 ++ t394) (wrap64 (x9_1 + 1)) s0_0 t380 t381) else (none)) = some (r1, r2, r3, r4) := H
       have A27 := Aside0.mk A270
       clear A270
       by_cases c28 : x8_1.length + t394.length < 140737488355328
       ·rw [if_pos c28] at H
        have LMc28 := Aside0.mk c28
        clear c28
        obtain ⟨y397, hy_⟩ : ∃ y_ : List Int, y_ = (x8_1 ++ t394) := ⟨_, rfl⟩
        replace H : (runs_reader_one.l0 k1 a1 y397 (wrap64 (x9_1 + 1)) s0_0 t380 t381) = some (r1, r2, r3, r4) := rh
        have Ny397 := aE hy_
        clear hy_
        have H' := Aside0.mk H
        clear H
        obtain ⟨Ao29, co29, eo29⟩ := Kd.R_slice HO_8.out
        subst eo29
        go_wp2_with (first | ((with_reducible refine gf 81 rfl ?_); refine gL (some 22) rfl rfl Tryd.func81 rfl #[.pointer (some ⟨gx, 0, none⟩), .int .i64 (Int.tmod x9_1 2)] rfl ?_; (with_reducible refine (runs_reader_run.calls k1 g s0_0 x1001_1 x1002_1 (Int.tmod x9_1 2) t378 t379 t380 t381 w0 _ ?side1 ?side2 gx (hX.keep (by repeat (first | (with_reducible first | exact HK.out | apply KeepBut.set_ | apply keep_drewN | apply keep_drew | apply keep_alloc) | exact HK.out))) A5.out).mono ?_); (case side1 => repeat (first | (with_reducible first | exact HI0.out | apply IsS140.alloc | apply IsS140.drewN | apply IsS140.drew | apply IsS140.set_1 | apply IsS140.set_2) | exact HI0.out)); (case side2 => repeat (first | (with_reducible first | exact HB.out | apply below_alloc | apply pw_below_drewN | apply below_drew1 | refine below_set ?_ (IsS140.ge HI0.out)) | exact HB.out)); rintro e w30 ⟨rfl, hi, hb, hk⟩; refine ⟨_, rfl, ?_⟩; have n_ := aC (Kd.R_mono (Kd.R_keep (IsS140.apart (show IsS140 w0 _ g s0_0 x1001_1 x1002_1 from by repeat (first | (with_reducible first | exact HI0.out | apply IsS140.alloc | apply IsS140.drewN | apply IsS140.drew | apply IsS140.set_1 | apply IsS140.set_2) | exact HI0.out)) (rU HO_8.out) (by decide)) hk (fun _ h => h.2)) (fun _ h => h.1)) (aC (KeepBut.trans (by repeat (first | (with_reducible first | exact HK.out | apply KeepBut.set_ | apply keep_drewN | apply keep_drew | apply keep_alloc) | exact HK.out)) hk (.inl rfl)) (aC hb (aE hi))); clear HO_8 HK HB HI0; obtain ⟨HO_8, HK, HB, HI0⟩ := n_; (try clear hb)) | ((with_reducible refine gd 46 rfl ?_); (try (refine gate_guard (by rfl) ?_; dsimp only)); refine Kd.R_lit (Kd.int .u8) _ 5 ?hg (N := 46) ?hd (xs := ([(Int.tmod x9_1 2) % 256] : List Int)) (inner := [.int .u8 ((Int.tmod x9_1 2) % 256)]) (ok := fun _ => True) (okp := fun _ => True) ?hr ?hp (fun _ hk => hk) trivial (Below.refl _ _) (Nat.le_refl _) (by simp) ?_; (case hd => rfl); (case hg => rfl); (case hr => first | (go_simp; done) | (go_simp; rfl)); (case hp => exact (Reps.one (show Kd.M (Kd.int .u8) _ _ _ ((Int.tmod x9_1 2) % 256) [.int .u8 ((Int.tmod x9_1 2) % 256)] from rfl) (Reps.none _ _))); intro v392 w31 ho32 hb hg_ hnew_; clear hg_ hnew_; (first | rw [← Ny391.out] at ho32 | (simp only [Int.reduceToNat] at ho32; rw [← Ny391.out] at ho32)); have n_ := aC (Kd.R_elder' (rU HO_8.out) (Kd.R_base ho32) hb) (aC (Kd.R_lower (Kd.R_new' ho32 (Kd.R_lt (rU HO_8.out))) (keep_size (w := w) (g := g) (row := none) (by repeat (first | (with_reducible first | exact HK.out | apply KeepBut.set_ | apply keep_drewN | apply keep_drew | apply keep_alloc) | exact HK.out)))) (aC (IsS140.below (by repeat (first | (with_reducible first | exact HI0.out | apply IsS140.alloc | apply IsS140.drewN | apply IsS140.drew | apply IsS140.set_1 | apply IsS140.set_2) | exact HI0.out)) hb) (aC (KeepBut.trans (by repeat (first | (with_reducible first | exact HK.out | apply KeepBut.set_ | apply keep_drewN | apply keep_drew | apply keep_alloc) | exact HK.out)) (KeepBut.of_below hb g none) (.inl rfl)) (aE (below_step (by repeat (first | (with_reducible first | exact HB.out | apply below_alloc | apply pw_below_drewN | apply below_drew1 | refine below_set ?_ (IsS140.ge HI0.out)) | exact HB.out)) hb))))); clear HO_8 HI0 HK HB; obtain ⟨HO_8, HO393, HI0, HK, HB⟩ := n_; clear hb ho32; obtain ⟨Ao33, co33, eo33⟩ := Kd.R_slice HO393.out; subst eo33) | ((with_reducible refine gf 45 rfl ?_); refine gL (some 48) rfl rfl Tryd.func45 rfl #[.slice Ao33 y391.length co33, .int .i64 t378] rfl ?_; (with_reducible refine (slices_Repeat_byte_byte.calls k1 _ _ y391 t378 t394 _ ?side1 ?side2 A27.out).mono ?_); (case side1 => exact cU (Kd.R_reads' HO393.out).2.2); (case side2 => exact (Kd.R_reads' HO393.out).2.1); rintro e w34 ⟨v395, rfl, ho0, hb⟩; refine ⟨_, rfl, ?_⟩; have n_ := aC (Kd.R_elder' (rU HO_8.out) (Kd.R_base ho0) hb) (aC (Kd.R_elder' (rU HO393.out) (Kd.R_base ho0) hb) (aC (Kd.R_lower (Kd.R_new' (Kd.R_new' ho0 (Kd.R_lt (rU HO_8.out))) (Kd.R_lt (rU HO393.out))) (keep_size (w := w) (g := g) (row := none) (by repeat (first | (with_reducible first | exact HK.out | apply KeepBut.set_ | apply keep_drewN | apply keep_drew | apply keep_alloc) | exact HK.out)))) (aC (IsS140.below (by repeat (first | (with_reducible first | exact HI0.out | apply IsS140.alloc | apply IsS140.drewN | apply IsS140.drew | apply IsS140.set_1 | apply IsS140.set_2) | exact HI0.out)) hb) (aC (KeepBut.trans (by repeat (first | (with_reducible first | exact HK.out | apply KeepBut.set_ | apply keep_drewN | apply keep_drew | apply keep_alloc) | exact HK.out)) (KeepBut.of_below hb g none) (.inl rfl)) (aE (below_step (by repeat (first | (with_reducible first | exact HB.out | apply below_alloc | apply pw_below_drewN | apply below_drew1 | refine below_set ?_ (IsS140.ge HI0.out)) | exact HB.out)) hb)))))); clear HO_8 HO393 HI0 HK HB; obtain ⟨HO_8, HO393, HO396, HI0, HK, HB⟩ := n_; (try clear hb); (try clear ho0); obtain ⟨Ao36, co36, eo36⟩ := Kd.R_slice HO396.out; subst eo36) | ((with_reducible refine gate_builtin (b := .append) (xs := #[.tmp 42, .tmp 48]) rfl ?_); (try (refine gate_guard (by rfl) ?_; dsimp only)); at_builtin; refine Kd.R_append_rows (Kd.int .u8) w.heap.size rfl (.tmp 42) (.tmp 48) 22 5 (.int .u8 0) 1 rfl Tryd.underlying22 info5 rfl (by decide) (by omega) (.slice Ao29 x8_1.length co29) x8_1 t394 _ _ _ (fun k_ => some k_ ≠ (.slice Ao33 y391.length co33 : Value).ownBlock ∧ some k_ ≠ (.slice Ao36 t394.length co36 : Value).ownBlock) (fun _ => False) rfl rfl ?aO ?aR (fun _ _ h => h) (fun _ h => h.elim) ?aF (Below.refl _ _) ?aS ?aL ?_; (case aR => repeat (first | exact (Kd.R_reads' HO396.out).2.2 | (with_reducible refine Kd.C_alloc ?_ _) | (with_reducible refine Kd.C_drewN ?_ _) | (with_reducible refine Kd.C_drew ?_))); (case aF => exact (fun k_ hk => ⟨Kd.fresh' (Kd.R_lt (rU HO393.out)) k_ hk, Kd.fresh' (Kd.R_lt (rU HO396.out)) k_ hk⟩)); (case aO => exact (rU (Kd.R_mono HO_8.out (fun _ hk => ⟨hk.1.2, hk.2⟩)))); (case aS => exact (keep_size (w := w) (g := g) (row := none) (by repeat (first | (with_reducible first | exact HK.out | apply KeepBut.set_ | apply keep_drewN | apply keep_drew | apply keep_alloc) | exact HK.out)))); (case aL => have := LMc28.out; omega); intro v398 w35 ho hb hg hat; rw [← Ny397.out] at ho; have n_ := aC (IsS140.grown (by repeat (first | (with_reducible first | exact HI0.out | apply IsS140.alloc | apply IsS140.drewN | apply IsS140.drew | apply IsS140.set_1 | apply IsS140.set_2) | exact HI0.out)) hg (IsS140.own_ne HI0.out HO_8.out (by decide))) (aC (Kd.R_after (ok := (fun k_ => some k_ ≠ (.slice Ao36 t394.length co36 : Value).ownBlock)) (rU (Kd.R_mono HO393.out (fun _ hk => ⟨hk.2, hk.1.2⟩))) hg hat) (aC (Kd.R_after (ok := (fun k_ => some k_ ≠ (.slice Ao33 y391.length co33 : Value).ownBlock)) (rU (Kd.R_mono HO396.out (fun _ hk => ⟨hk.2, hk.1.2⟩))) hg hat) (aC (below_weaken (by repeat (first | (with_reducible first | exact HB.out | apply below_alloc | apply pw_below_drewN | apply below_drew1 | refine below_set ?_ (IsS140.ge HI0.out)) | exact HB.out)) HL.out hb) (aC (KeepBut.trans (by repeat (first | (with_reducible first | exact HK.out | apply KeepBut.set_ | apply keep_drewN | apply keep_drew | apply keep_alloc) | exact HK.out)) (KeepBut.of_grown hg g) (Kd.R_base2 HO_8.out)) (aE ho))))); clear HI0 HO393 HO396 HB HK HO_8; obtain ⟨HI0, HO393, HO396, HB, HK, HO399⟩ := n_; clear ho hb hg hat))
        go_roundg k1
        case measure => have := HK1.out; omega
        case rel => exact ⟨(y397), (wrap64 (x9_1 + 1)), (t380), (t381), rq, H', ⟨by have := HK1.out; omega⟩, ⟨rU (Kd.R_mono HO399.out (fun _ hk => trivial))⟩, ⟨by repeat (first | (with_reducible first | exact HI0.out | apply IsS140.alloc | apply IsS140.drewN | apply IsS140.drew | apply IsS140.set_1 | apply IsS140.set_2) | exact HI0.out)⟩, ⟨by repeat (first | (with_reducible first | exact HK.out | apply KeepBut.set_ | apply keep_drewN | apply keep_drew | apply keep_alloc) | exact HK.out)⟩, ⟨by repeat (first | (with_reducible first | exact HB.out | apply below_alloc | apply pw_below_drewN | apply below_drew1 | refine below_set ?_ (IsS140.ge HI0.out)) | exact HB.out)⟩⟩
       ·rw [if_neg c28] at H
        exact absurd H (by simp)
    ·rw [if_neg c6] at H
     have c6b0 := beq_eq_false_iff_ne.mpr c6
     have c6b1 := bne_iff_ne.mpr c6
     simp only [Option.some.injEq, Prod.mk.injEq] at H
     obtain ⟨rfl, rfl, rfl, rfl⟩ := H
     obtain ⟨Ao37, co37, eo37⟩ := Kd.R_slice HO_8.out
     subst eo37
     go_wp2_with (first | ((with_reducible refine gf 81 rfl ?_); refine gL (some 22) rfl rfl Tryd.func81 rfl #[.pointer (some ⟨gx, 0, none⟩), .int .i64 (Int.tmod x9_1 2)] rfl ?_; (with_reducible refine (runs_reader_run.calls k1 g s0_0 x1001_1 x1002_1 (Int.tmod x9_1 2) t378 t379 t380 t381 w0 _ ?side1 ?side2 gx (hX.keep (by repeat (first | (with_reducible first | exact HK.out | apply KeepBut.set_ | apply keep_drewN | apply keep_drew | apply keep_alloc) | exact HK.out))) A5.out).mono ?_); (case side1 => repeat (first | (with_reducible first | exact HI0.out | apply IsS140.alloc | apply IsS140.drewN | apply IsS140.drew | apply IsS140.set_1 | apply IsS140.set_2) | exact HI0.out)); (case side2 => repeat (first | (with_reducible first | exact HB.out | apply below_alloc | apply pw_below_drewN | apply below_drew1 | refine below_set ?_ (IsS140.ge HI0.out)) | exact HB.out)); rintro e w38 ⟨rfl, hi, hb, hk⟩; refine ⟨_, rfl, ?_⟩; have n_ := aC (Kd.R_mono (Kd.R_keep (IsS140.apart (show IsS140 w0 _ g s0_0 x1001_1 x1002_1 from by repeat (first | (with_reducible first | exact HI0.out | apply IsS140.alloc | apply IsS140.drewN | apply IsS140.drew | apply IsS140.set_1 | apply IsS140.set_2) | exact HI0.out)) (rU HO_8.out) (by decide)) hk (fun _ h => h.2)) (fun _ h => h.1)) (aC (KeepBut.trans (by repeat (first | (with_reducible first | exact HK.out | apply KeepBut.set_ | apply keep_drewN | apply keep_drew | apply keep_alloc) | exact HK.out)) hk (.inl rfl)) (aC hb (aE hi))); clear HO_8 HK HB HI0; obtain ⟨HO_8, HK, HB, HI0⟩ := n_; (try clear hb)))
     go_ret2
     exact ⟨_, re, by first | exact Kd.R_nil _ _ _ _ _ | exact Kd.N_nil _ _ _ _ _ | exact Kd.V_nil _ _ _ _ _ | exact Kd.Q_nil _ _ _ _ _ | exact Kd.S_nil _ _ _ _ _, by repeat (first | (with_reducible first | exact HI0.out | apply IsS140.alloc | apply IsS140.drewN | apply IsS140.drew | apply IsS140.set_1 | apply IsS140.set_2) | exact HI0.out), by repeat (first | (with_reducible first | exact HB.out | apply below_alloc | apply pw_below_drewN | apply below_drew1 | refine below_set ?_ (IsS140.ge HI0.out)) | exact HB.out), by repeat (first | (with_reducible first | exact HK.out | apply KeepBut.set_ | apply keep_drewN | apply keep_drew | apply keep_alloc) | exact HK.out)⟩
   ·rw [if_neg c4] at H
    have c4b0 := decide_eq_false c4
    clear c4
    simp only [Option.some.injEq, Prod.mk.injEq] at H
    obtain ⟨rfl, rfl, rfl, rfl⟩ := H
    obtain ⟨Ao39, co39, eo39⟩ := Kd.R_slice HO_8.out
    subst eo39
    go_wp2
    go_ret2
    exact ⟨_, re, rU HO_8.out, by repeat (first | (with_reducible first | exact HI0.out | apply IsS140.alloc | apply IsS140.drewN | apply IsS140.drew | apply IsS140.set_1 | apply IsS140.set_2) | exact HI0.out), by repeat (first | (with_reducible first | exact HB.out | apply below_alloc | apply pw_below_drewN | apply below_drew1 | refine below_set ?_ (IsS140.ge HI0.out)) | exact HB.out), by repeat (first | (with_reducible first | exact HK.out | apply KeepBut.set_ | apply keep_drewN | apply keep_drew | apply keep_alloc) | exact HK.out)⟩

end Go.Proofs.YtknclbodinfbeaaDoor.PRunsGetOne
