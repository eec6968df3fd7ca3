-- printed (wip/tools/myprint.py)
import Derived.Test.YtidgpjcgoocpeaaDoorPTopRunsx0
import Derived.Test.YtidgpjcgoocpeaaDoorPTopRunsx11
import Derived.Test.YtidgpjcgoocpeaaDoorPTopRunsx12
namespace Go.Proofs.YtidgpjcgoocpeaaDoor.PTopRuns
open Go.RowKit Go.Proofs.YtidgpjcgoocpeaaDoorW.PrintWords Go.Proofs.YtidgpjcgoocpeaaDoorW.PrintLast Go.Proofs.YtidgpjcgoocpeaaDoorW.PrintMore
attribute [local go_sem] max2_int min2_int max_two min_two max_three min_three max_four min_four
set_option linter.unusedVariables false
set_option linter.unusedSimpArgs false
def runs_reader_number.f (k : Nat) (s0_0 : List Int) (s0_1 : Int) (s0_2 : Bool) (l1_0 : List (S103)) (l1_1 : List ByteArray) : Option (Int × Int × Int × Bool) := (runs_reader_word.f k s0_0 s0_1 s0_2 l1_1).bind fun bt474 => (if bt474.2.1 = 0 then (if 0 ≤ bt474.1 then (if bt474.1 < (l1_0.length : Int) then ((bits_Reader_Bits.f k s0_0 bt474.2.2.1 bt474.2.2.2 ((rd_T103 l1_0 bt474.1).f1)).bind fun bt479 => (some (wrap64 (bt479.1 + ((rd_T103 l1_0 bt474.1).f2)), bt479.2.1, bt479.2.2.1, bt479.2.2.2))) else (none)) else (none)) else (some (0, bt474.2.1, bt474.2.2.1, bt474.2.2.2)))
theorem runs_reader_number.mono : ∀ a0 a1 a2 a3 a4 k, LeO (runs_reader_number.f k a0 a1 a2 a3 a4) (runs_reader_number.f (k + 1) a0 a1 a2 a3 a4) := by
 intro a0 a1 a2 a3 a4 k
 unfold runs_reader_number.f
 repeat' first
   | (with_reducible exact bits_Reader_Bits.mono _ _ _ _ _)
   | (with_reducible exact runs_reader_word.mono _ _ _ _ _)
   | (with_reducible first | exact LeO.refl _ | exact LeO.none _ | refine LeO.ite ?_ ?_ | refine LeO.bind ?_ (fun _ => ?_))
def runs_reader_number.T4 : Bool × List (List Nat × List Nat) := (true, [([], []), ([0], [0]), ([1], [1]), ([2], [2]), ([], []), ([4], [4]), ([], []), ([5, 6], [5, 6]), ([7], [7]), ([8], [8]), ([3, 9], [3, 9]), ([10], [10]), ([11], [11]), ([11], [11]), ([12, 10, 0, 1, 2, 3, 4, 5, 6, 7, 8, 9, 10, 11, 12], [12]), ([13, 14, 0, 1, 2, 3, 4, 5, 6, 7, 8, 9, 10, 11, 12, 13, 14], [13])])
def runs_reader_number.B4 : List Nat := [0, 1, 3, 7, 0, 16, 0, 112, 240, 496, 1023, 2047, 4095, 4095, 8191, 32767]
theorem runs_reader_number.tab4 : rtab .any (opsOf Tryd.f59 4) = runs_reader_number.T4 := by kernel_rfl
theorem runs_reader_number.bits4 : waitsOk runs_reader_number.T4.2 runs_reader_number.B4 = true := by kernel_rfl
set_option maxHeartbeats 8000000 in
set_option maxRecDepth 100000 in
theorem runs_reader_number.calls (k : Nat) (g : Nat) (s0_0 : List Int) (s0_1 : Int) (s0_2 : Bool) (A1_0 : Option Addr) (c1_0 : Nat) (l1_0 : List (S103)) (A1_1 : Option Addr) (c1_1 : Nat) (l1_1 : List ByteArray) (r1 : Int) (r2 : Int) (r3 : Int) (r4 : Bool) (w0 w : World) (hI : IsS107 w0 w g s0_0 s0_1 s0_2) (hB : Below w0.heap.size w0 w) (hr1_0 : ∀ W_, KeepBut w W_ g none → Kd.C k103 W_ A1_0 l1_0.length l1_0) (hc1_0 : l1_0.length ≤ c1_0) (hr1_1 : Kd.C Kd.string w A1_1 l1_1.length l1_1) (hc1_1 : l1_1.length ≤ c1_1) (hf1_1 : ∀ ad, A1_1 = some ad → 0 < l1_1.length → ad.block ≠ g) (gx : Nat) (hXk : ∀ W_ : World, KeepBut w W_ g none → W_.cell? ⟨gx, 0, none⟩ = some (.pointer (some ⟨g, 0, none⟩))) (h : runs_reader_number.f k s0_0 s0_1 s0_2 l1_0 l1_1 = some (r1, r2, r3, r4)) :
  Calls Tryd.prog 59 #[.pointer (some ⟨gx, 0, none⟩), .agg #[.slice A1_0 l1_0.length c1_0, .slice A1_1 l1_1.length c1_1]] w fun e w' => e = .returned (.tuple #[.int .i64 r1, .int .i64 r2]) ∧ IsS107 w0 w' g s0_0 r3 r4 ∧ Below w0.heap.size w0 w' ∧ KeepBut w w' g none := by
 have hu86 := Tryd.underlying86
 have hu83 := Tryd.underlying83
 have HR1_0 := Aside0.mk hr1_0
 have HC1_0 := Aside0.mk hc1_0
 clear hr1_0 hc1_0
 have HR1_1 := Aside0.mk hr1_1
 have HC1_1 := Aside0.mk hc1_1
 clear hr1_1 hc1_1
 have HI0 := Aside0.mk hI
 have HK := Aside0.mk (KeepBut.refl w g none)
 have HL := Aside0.mk hB.size
 clear hI
 have HW0 := Aside0.mk hB.size
 have HB := Aside0.mk hB
 clear hB
 have H := h
 unfold runs_reader_number.f at H
 clear h
 obtain ⟨⟨t474, t475, t476, t477⟩, A3, H⟩ := oB H
 try dsimp only at H
 rcases iE H with H1 | H1 <;> clear H <;> obtain ⟨H, c4b0, c4b1, c4⟩ := H1
 ·by_cases c5 : 0 ≤ t474
  ·rw [if_pos c5] at H
   have c5b0 := decide_eq_true c5
   clear c5
   by_cases c6 : t474 < (l1_0.length : Int)
   ·rw [if_pos c6] at H
    have c6b0 := decide_eq_true c6
    clear c6
    obtain ⟨⟨t479, t480, t481, t482⟩, A7, H⟩ := oB H
    try dsimp only at H
    simp only [Option.some.injEq, Prod.mk.injEq] at H
    obtain ⟨rfl, rfl, rfl, rfl⟩ := H
    go_enter Tryd.func59, Tryd.ntmps59
    have hX_ := hXk _ HK.out
    try go_wp2_with (first | ((with_reducible refine gd 3 rfl ?_); refine bx 3 #[.slice A1_0 l1_0.length c1_0, .slice A1_1 l1_1.length c1_1] 83 rfl rfl ?_; intro gb473 hg w8 hbox hb; have n_ := aC (IsS107.below (by repeat (first | (with_reducible first | exact HI0.out | apply IsS107.alloc | apply IsS107.drewN | apply IsS107.drew | apply IsS107.set_1 | apply IsS107.set_2) | exact HI0.out)) hb) (aC (KeepBut.trans (by repeat (first | (with_reducible first | exact HK.out | apply KeepBut.set_ | apply keep_drewN | apply keep_drew | apply keep_alloc) | exact HK.out)) (KeepBut.of_below hb g none) (.inl rfl)) (aC (below_step (by repeat (first | (with_reducible first | exact HB.out | apply below_alloc | apply pw_below_drewN | apply below_drew1 | refine below_set ?_ (IsS107.ge HI0.out)) | exact HB.out)) hb) (aC hbox (aC ((by rw [hg]; exact (keep_size (w := w) (g := g) (row := none) (by repeat (first | (with_reducible first | exact HK.out | apply KeepBut.set_ | apply keep_drewN | apply keep_drew | apply keep_alloc) | exact HK.out))) : w.heap.size ≤ gb473)) (aC ((Nat.le_trans HW0.out (by rw [hg]; exact (keep_size (w := w) (g := g) (row := none) (by repeat (first | (with_reducible first | exact HK.out | apply KeepBut.set_ | apply keep_drewN | apply keep_drew | apply keep_alloc) | exact HK.out))) : w.heap.size ≤ gb473) : w0.heap.size ≤ gb473)) (aC ((by rw [hg]; exact Nat.ne_of_lt (IsS107.lt (show IsS107 w0 _ g s0_0 s0_1 s0_2 from by repeat (first | (with_reducible first | exact HI0.out | apply IsS107.alloc | apply IsS107.drewN | apply IsS107.drew | apply IsS107.set_1 | apply IsS107.set_2) | exact HI0.out))) : g ≠ gb473)) (aE ((by rw [hg]; exact Nat.ne_of_gt (IsS107.lt (show IsS107 w0 _ g s0_0 s0_1 s0_2 from by repeat (first | (with_reducible first | exact HI0.out | apply IsS107.alloc | apply IsS107.drewN | apply IsS107.drew | apply IsS107.set_1 | apply IsS107.set_2) | exact HI0.out))) : gb473 ≠ g))))))))); clear HI0 HK HB; obtain ⟨HI0, HK, HB, BK473, GW473, GE473, NB0_473, NB473_0⟩ := n_; clear hb hbox hg; have hnb9 := NB473_0.out; have hnc9 := NB0_473.out; obtain ⟨hcz10_0, hcz10_1, hfz10_0, hfz10_1⟩ := cz2f BK473.out; have hX_ := hXk _ HK.out) | (refine gF 61 13 Tryd.func61 #[.pointer (some ⟨gx, 0, none⟩), .slice A1_1 l1_1.length c1_1] rfl rfl ?_; (with_reducible refine (runs_reader_word.calls k g s0_0 s0_1 s0_2 _ _ l1_1 t474 t475 t476 t477 w0 _ ?side1 ?side2 ?side3 ?side4 ?side5 gx (fun W_ h_ => hXk W_ (KeepBut.trans (by repeat (first | (with_reducible first | exact HK.out | apply KeepBut.set_ | apply keep_drewN | apply keep_drew | apply keep_alloc | refine keep_far ?_ GW473.out _) | exact HK.out)) h_ (.inl rfl))) A3.out).mono ?_); (case side1 => repeat (first | (with_reducible first | exact HI0.out | apply IsS107.alloc | apply IsS107.drewN | apply IsS107.drew | apply IsS107.set_1 | apply IsS107.set_2 | refine IsS107.far ?_ NB0_473.out _) | exact HI0.out)); (case side2 => repeat (first | (with_reducible first | exact HB.out | apply below_alloc | apply pw_below_drewN | apply below_drew1 | refine below_set ?_ (IsS107.ge HI0.out) | refine below_set ?_ GE473.out) | exact HB.out)); (case side3 => exact Kd.C_keep (⟨#[]⟩ : ByteArray) HR1_1.out (by repeat (first | (with_reducible first | exact HK.out | apply KeepBut.set_ | apply keep_drewN | apply keep_drew | apply keep_alloc | refine keep_far ?_ GW473.out _) | exact HK.out)) hf1_1); (case side4 => exact HC1_1.out); (case side5 => exact hf1_1); rintro e w11 ⟨rfl, hi, hb, hk⟩; refine ⟨_, rfl, ?_⟩; have n_ := aC (KeepBut.blk hk (g' := gb473) (o := .cells #[.slice A1_0 l1_0.length c1_0, .slice A1_1 l1_1.length c1_1] 83 (0, 0)) (bU BK473.out) NB473_0.out (by simp)) (aC (KeepBut.trans (by repeat (first | (with_reducible first | exact HK.out | apply KeepBut.set_ | apply keep_drewN | apply keep_drew | apply keep_alloc | refine keep_far ?_ GW473.out _) | exact HK.out)) hk (.inl rfl)) (aC hb (aE hi))); clear BK473 HK HB HI0; obtain ⟨BK473, HK, HB, HI0⟩ := n_; have hX_ := hXk _ HK.out))
    have n_ := aC (blk_drew BK473.out) (aC (IsS107.drew HI0.out) (aC (keep_drew HK.out) (aE (below_drew1 HB.out))))
    clear BK473 HI0 HK HB
    obtain ⟨BK473, HI0, HK, HB⟩ := n_
    have p478 : 0 ≤ (t474 : Int) := dt
    have q478 : t474 < (l1_0.length : Int) := dt
    obtain ⟨ad478, e478, hx478_0, hx478_1, hx478_2, hx478_3⟩ := at_T103 (Kd.C_foot_now HR1_0.out HK.out) t474 p478 q478
    have hw478_3 := hx478_3
    have hw478_2 := hx478_2
    have hw478_1 := hx478_1
    have hw478_0 := hx478_0
    cases e478
    have hne478_3 := (show (⟨(ad478.add ((t474).toNat * 4)).block, (ad478.add ((t474).toNat * 4)).off + 3, none⟩ : Addr).block ≠ g from by first | (rw [add_block]; exact Kd.foot_ne HR1_0.out (by omega) (by decide)) | (show (Addr.add _ _).block ≠ _; rw [add_block]; exact Kd.foot_ne HR1_0.out (by omega) (by decide)) | exact Kd.foot_ne HR1_0.out (by omega) (by decide) | (dsimp only; exact Kd.foot_ne HR1_0.out (by omega) (by decide)))
    have hlt478_3 := (Kd.foot_lt HR1_0.out (by omega) (by decide))
    have hne478_2 := (show (⟨(ad478.add ((t474).toNat * 4)).block, (ad478.add ((t474).toNat * 4)).off + 2, none⟩ : Addr).block ≠ g from by first | (rw [add_block]; exact Kd.foot_ne HR1_0.out (by omega) (by decide)) | (show (Addr.add _ _).block ≠ _; rw [add_block]; exact Kd.foot_ne HR1_0.out (by omega) (by decide)) | exact Kd.foot_ne HR1_0.out (by omega) (by decide) | (dsimp only; exact Kd.foot_ne HR1_0.out (by omega) (by decide)))
    have hlt478_2 := (Kd.foot_lt HR1_0.out (by omega) (by decide))
    have hne478_1 := (show (⟨(ad478.add ((t474).toNat * 4)).block, (ad478.add ((t474).toNat * 4)).off + 1, none⟩ : Addr).block ≠ g from by first | (rw [add_block]; exact Kd.foot_ne HR1_0.out (by omega) (by decide)) | (show (Addr.add _ _).block ≠ _; rw [add_block]; exact Kd.foot_ne HR1_0.out (by omega) (by decide)) | exact Kd.foot_ne HR1_0.out (by omega) (by decide) | (dsimp only; exact Kd.foot_ne HR1_0.out (by omega) (by decide)))
    have hlt478_1 := (Kd.foot_lt HR1_0.out (by omega) (by decide))
    have hne478_0 := (show ((ad478.add ((t474).toNat * 4)) : Addr).block ≠ g from by first | (rw [add_block]; exact Kd.foot_ne HR1_0.out (by omega) (by decide)) | (show (Addr.add _ _).block ≠ _; rw [add_block]; exact Kd.foot_ne HR1_0.out (by omega) (by decide)) | exact Kd.foot_ne HR1_0.out (by omega) (by decide) | (dsimp only; exact Kd.foot_ne HR1_0.out (by omega) (by decide)))
    have hlt478_0 := (Kd.foot_lt HR1_0.out (by omega) (by decide))
    replace p478 := eq_true p478
    replace q478 := eq_true q478
    refine st 16 (fun w' => w'.cell? ⟨gb473, 0, none⟩ = some (.slice (some ad478) l1_0.length c1_0) ∧ w'.cell? ⟨gb473, 1, none⟩ = some (.slice A1_1 l1_1.length c1_1) ∧ w'.cell? (ad478.add ((t474).toNat * 4)) = some (.int .i64 ((rd_T103 l1_0 t474).f0)) ∧ w'.cell? ⟨(ad478.add ((t474).toNat * 4)).block, (ad478.add ((t474).toNat * 4)).off + 1, none⟩ = some (.int .i64 ((rd_T103 l1_0 t474).f1)) ∧ w'.cell? ⟨(ad478.add ((t474).toNat * 4)).block, (ad478.add ((t474).toNat * 4)).off + 2, none⟩ = some (.int .i64 ((rd_T103 l1_0 t474).f2)) ∧ w'.cell? ⟨(ad478.add ((t474).toNat * 4)).block, (ad478.add ((t474).toNat * 4)).off + 3, none⟩ = some (.int .i64 ((rd_T103 l1_0 t474).f3)) ∧ w'.cell? ⟨gx, 0, none⟩ = some (.pointer (some ⟨g, 0, none⟩))) [] (bv 16 0) runs_reader_number.tab4 runs_reader_number.bits4 ⟨kc0 BK473.out, kc1 BK473.out, hx478_0, hx478_1, hx478_2, hx478_3, (hXk _ HK.out)⟩ (fun hHeld HT_ HW_ => ?_)
    generalize w11.drew = w12 at BK473 HI0 HK HB hx478_0 hx478_1 hx478_2 hx478_3 hHeld ⊢
    refine pu 0 20 (bv 16 1) HT_ rfl rfl ?_
    refine pu 1 21 (bv 16 3) HT_ rfl rfl ?_
    refine pu 2 22 (bv 16 7) HT_ rfl rfl ?_
    refine pu 4 24 (bv 16 23) HT_ rfl rfl ?_
    refine pu 6 26 (bv 16 87) HT_ rfl rfl ?_
    refine tk 3 23 (bv 16 95) HT_ HW_ hHeld rfl rfl (by rintro w' ⟨s0, s1, s2, s3, s4, s5, s99⟩; exact yl) ?_
    refine tk 5 25 (bv 16 127) HT_ HW_ hHeld rfl rfl (by rintro w' ⟨s0, s1, s2, s3, s4, s5, s99⟩; exact yl) ?_
    refine pu 7 27 (bv 16 255) HT_ rfl rfl ?_
    refine pu 8 28 (bv 16 511) HT_ rfl rfl ?_
    refine tk 9 29 (bv 16 1023) HT_ HW_ hHeld rfl rfl (by rintro w' ⟨s0, s1, s2, s3, s4, s5, s99⟩; exact yl) ?_
    refine one_ (i := 10) (N := some 30) (bv 16 2047) rfl rfl (one_of HT_.out (by kernel_rfl)) (by decide) (fun K hK => ?_)
    refine gK Tryd.func70 rfl #[.pointer (some ⟨g, 0, none⟩), .int .i64 ((rd_T103 l1_0 t474).f1)] rfl rfl ?_
    with_reducible refine (bits_Reader_Bits.calls k g s0_0 t476 t477 ((rd_T103 l1_0 t474).f1) t479 t480 t481 t482 w0 _ ?side1 ?side2 A7.out).mono ?_
    (case side1 => repeat (first | (with_reducible first | exact HI0.out | apply IsS107.alloc | apply IsS107.drewN | apply IsS107.drew | apply IsS107.set_1 | apply IsS107.set_2 | refine IsS107.far ?_ NB0_473.out _) | exact HI0.out))
    (case side2 => repeat (first | (with_reducible first | exact HB.out | apply below_alloc | apply pw_below_drewN | apply below_drew1 | refine below_set ?_ (IsS107.ge HI0.out) | refine below_set ?_ GE473.out) | exact HB.out))
    rintro e w13 ⟨rfl, hi, hb, hk⟩
    have HS2_ := keep_cell hk (hHeld.2.2.1) (by first | (rw [add_block]; exact hne478_0) | (show (Addr.add _ _).block ≠ _; rw [add_block]; exact hne478_0) | exact hne478_0)
    have HS3_ := keep_cell hk (hHeld.2.2.2.1) (by first | (rw [add_block]; exact hne478_1) | (show (Addr.add _ _).block ≠ _; rw [add_block]; exact hne478_1) | exact hne478_1)
    have HS4_ := keep_cell hk (hHeld.2.2.2.2.1) (by first | (rw [add_block]; exact hne478_2) | (show (Addr.add _ _).block ≠ _; rw [add_block]; exact hne478_2) | exact hne478_2)
    have HS5_ := keep_cell hk (hHeld.2.2.2.2.2.1) (by first | (rw [add_block]; exact hne478_3) | (show (Addr.add _ _).block ≠ _; rw [add_block]; exact hne478_3) | exact hne478_3)
    refine ⟨_, rfl, ?_⟩
    have n_ := aC (KeepBut.blk hk (g' := gb473) (o := .cells #[.slice (some ad478) l1_0.length c1_0, .slice A1_1 l1_1.length c1_1] 83 (0, 0)) (bU BK473.out) NB473_0.out (by simp)) (aC (KeepBut.trans (by repeat (first | (with_reducible first | exact HK.out | apply KeepBut.set_ | apply keep_drewN | apply keep_drew | apply keep_alloc | refine keep_far ?_ GW473.out _) | exact HK.out)) hk (.inl rfl)) (aC hb (aE hi)))
    clear BK473 HK HB HI0
    obtain ⟨BK473, HK, HB, HI0⟩ := n_
    (try clear hb)
    (try clear hb2)
    (try clear hk)
    (try clear hi)
    refine hK.out _ _ ⟨kc0 BK473.out, kc1 BK473.out, HS2_, HS3_, HS4_, HS5_, (hXk _ HK.out)⟩ (fun hHeld => ?_)
    clear hK K
    refine nm (some 30) ?_
    refine pu 11 19 (bv 16 4095) HT_ rfl rfl ?_
    refine pu 12 31 (bv 16 8191) HT_ rfl rfl ?_
    refine pu 13 32 (bv 16 16383) HT_ rfl rfl ?_
    refine pu 14 8 (bv 16 32767) HT_ rfl rfl ?_
    refine pu 15 7 (bv 16 65535) HT_ rfl rfl ?_
    refine done_ (done_of HT_.out (by kernel_rfl)) ?_
    obtain ⟨hcz14_0, hcz14_1, hfz14_0, hfz14_1⟩ := cz2f BK473.out
    have p483 : 0 ≤ (t474 : Int) := dt
    have q483 : t474 < (l1_0.length : Int) := dt
    obtain ⟨ad483, e483, hx483_0, hx483_1, hx483_2, hx483_3⟩ := at_T103 (Kd.C_foot_now HR1_0.out HK.out) t474 p483 q483
    obtain rfl : ad478 = ad483 := (by injection e483)
    replace p483 := eq_true p483
    replace q483 := eq_true q483
    have hX_ := hXk _ HK.out
    try go_wp2
    go_ret2
    exact ⟨re, by repeat (first | (with_reducible first | exact HI0.out | apply IsS107.alloc | apply IsS107.drewN | apply IsS107.drew | apply IsS107.set_1 | apply IsS107.set_2 | refine IsS107.far ?_ NB0_473.out _) | exact HI0.out), by repeat (first | (with_reducible first | exact HB.out | apply below_alloc | apply pw_below_drewN | apply below_drew1 | refine below_set ?_ (IsS107.ge HI0.out) | refine below_set ?_ GE473.out) | exact HB.out), by repeat (first | (with_reducible first | exact HK.out | apply KeepBut.set_ | apply keep_drewN | apply keep_drew | apply keep_alloc | refine keep_far ?_ GW473.out _) | exact HK.out)⟩
   ·rw [if_neg c6] at H
    exact absurd H (by simp)
  ·rw [if_neg c5] at H
   exact absurd H (by simp)
 ·simp only [Option.some.injEq, Prod.mk.injEq] at H
  obtain ⟨rfl, rfl, rfl, rfl⟩ := H
  go_enter Tryd.func59, Tryd.ntmps59
  have hX_ := hXk _ HK.out
  go_wp2_with (first | ((with_reducible refine gd 3 rfl ?_); refine bx 3 #[.slice A1_0 l1_0.length c1_0, .slice A1_1 l1_1.length c1_1] 83 rfl rfl ?_; intro gb473 hg w15 hbox hb; have n_ := aC (IsS107.below (by repeat (first | (with_reducible first | exact HI0.out | apply IsS107.alloc | apply IsS107.drewN | apply IsS107.drew | apply IsS107.set_1 | apply IsS107.set_2) | exact HI0.out)) hb) (aC (KeepBut.trans (by repeat (first | (with_reducible first | exact HK.out | apply KeepBut.set_ | apply keep_drewN | apply keep_drew | apply keep_alloc) | exact HK.out)) (KeepBut.of_below hb g none) (.inl rfl)) (aC (below_step (by repeat (first | (with_reducible first | exact HB.out | apply below_alloc | apply pw_below_drewN | apply below_drew1 | refine below_set ?_ (IsS107.ge HI0.out)) | exact HB.out)) hb) (aC hbox (aC ((by rw [hg]; exact (keep_size (w := w) (g := g) (row := none) (by repeat (first | (with_reducible first | exact HK.out | apply KeepBut.set_ | apply keep_drewN | apply keep_drew | apply keep_alloc) | exact HK.out))) : w.heap.size ≤ gb473)) (aC ((Nat.le_trans HW0.out (by rw [hg]; exact (keep_size (w := w) (g := g) (row := none) (by repeat (first | (with_reducible first | exact HK.out | apply KeepBut.set_ | apply keep_drewN | apply keep_drew | apply keep_alloc) | exact HK.out))) : w.heap.size ≤ gb473) : w0.heap.size ≤ gb473)) (aC ((by rw [hg]; exact Nat.ne_of_lt (IsS107.lt (show IsS107 w0 _ g s0_0 s0_1 s0_2 from by repeat (first | (with_reducible first | exact HI0.out | apply IsS107.alloc | apply IsS107.drewN | apply IsS107.drew | apply IsS107.set_1 | apply IsS107.set_2) | exact HI0.out))) : g ≠ gb473)) (aE ((by rw [hg]; exact Nat.ne_of_gt (IsS107.lt (show IsS107 w0 _ g s0_0 s0_1 s0_2 from by repeat (first | (with_reducible first | exact HI0.out | apply IsS107.alloc | apply IsS107.drewN | apply IsS107.drew | apply IsS107.set_1 | apply IsS107.set_2) | exact HI0.out))) : gb473 ≠ g))))))))); clear HI0 HK HB; obtain ⟨HI0, HK, HB, BK473, GW473, GE473, NB0_473, NB473_0⟩ := n_; clear hb hbox hg; have hnb16 := NB473_0.out; have hnc16 := NB0_473.out; obtain ⟨hcz17_0, hcz17_1, hfz17_0, hfz17_1⟩ := cz2f BK473.out; have hX_ := hXk _ HK.out) | (refine gF 61 13 Tryd.func61 #[.pointer (some ⟨gx, 0, none⟩), .slice A1_1 l1_1.length c1_1] rfl rfl ?_; (with_reducible refine (runs_reader_word.calls k g s0_0 s0_1 s0_2 _ _ l1_1 t474 t475 t476 t477 w0 _ ?side1 ?side2 ?side3 ?side4 ?side5 gx (fun W_ h_ => hXk W_ (KeepBut.trans (by repeat (first | (with_reducible first | exact HK.out | apply KeepBut.set_ | apply keep_drewN | apply keep_drew | apply keep_alloc | refine keep_far ?_ GW473.out _) | exact HK.out)) h_ (.inl rfl))) A3.out).mono ?_); (case side1 => repeat (first | (with_reducible first | exact HI0.out | apply IsS107.alloc | apply IsS107.drewN | apply IsS107.drew | apply IsS107.set_1 | apply IsS107.set_2 | refine IsS107.far ?_ NB0_473.out _) | exact HI0.out)); (case side2 => repeat (first | (with_reducible first | exact HB.out | apply below_alloc | apply pw_below_drewN | apply below_drew1 | refine below_set ?_ (IsS107.ge HI0.out) | refine below_set ?_ GE473.out) | exact HB.out)); (case side3 => exact Kd.C_keep (⟨#[]⟩ : ByteArray) HR1_1.out (by repeat (first | (with_reducible first | exact HK.out | apply KeepBut.set_ | apply keep_drewN | apply keep_drew | apply keep_alloc | refine keep_far ?_ GW473.out _) | exact HK.out)) hf1_1); (case side4 => exact HC1_1.out); (case side5 => exact hf1_1); rintro e w18 ⟨rfl, hi, hb, hk⟩; refine ⟨_, rfl, ?_⟩; have n_ := aC (KeepBut.blk hk (g' := gb473) (o := .cells #[.slice A1_0 l1_0.length c1_0, .slice A1_1 l1_1.length c1_1] 83 (0, 0)) (bU BK473.out) NB473_0.out (by simp)) (aC (KeepBut.trans (by repeat (first | (with_reducible first | exact HK.out | apply KeepBut.set_ | apply keep_drewN | apply keep_drew | apply keep_alloc | refine keep_far ?_ GW473.out _) | exact HK.out)) hk (.inl rfl)) (aC hb (aE hi))); clear BK473 HK HB HI0; obtain ⟨BK473, HK, HB, HI0⟩ := n_; have hX_ := hXk _ HK.out))
  go_ret2
  exact ⟨re, by repeat (first | (with_reducible first | exact HI0.out | apply IsS107.alloc | apply IsS107.drewN | apply IsS107.drew | apply IsS107.set_1 | apply IsS107.set_2 | refine IsS107.far ?_ NB0_473.out _) | exact HI0.out), by repeat (first | (with_reducible first | exact HB.out | apply below_alloc | apply pw_below_drewN | apply below_drew1 | refine below_set ?_ (IsS107.ge HI0.out) | refine below_set ?_ GE473.out) | exact HB.out), by repeat (first | (with_reducible first | exact HK.out | apply KeepBut.set_ | apply keep_drewN | apply keep_drew | apply keep_alloc | refine keep_far ?_ GW473.out _) | exact HK.out)⟩
def Xok (g gx : Nat) (U C0 C1 : List S103 × List ByteArray) (ws : List ByteArray) (w : World) : Prop :=
 ∃ (a1 a2 a3 a4 a5 a6 a7 : Option Addr) (c1 c2 c3 c4 c5 c6 c7 : Nat),
  (U.1.length ≤ c1 ∧ U.2.length ≤ c2 ∧ C0.1.length ≤ c3 ∧ C0.2.length ≤ c4 ∧ C1.1.length ≤ c5 ∧ C1.2.length ≤ c6 ∧ ws.length ≤ c7) ∧
  ((∀ ad, a2 = some ad → 0 < U.2.length → ad.block ≠ g) ∧ (∀ ad, a4 = some ad → 0 < C0.2.length → ad.block ≠ g) ∧ (∀ ad, a6 = some ad → 0 < C1.2.length → ad.block ≠ g) ∧ (∀ ad, a7 = some ad → 0 < ws.length → ad.block ≠ g)) ∧
  ∀ W_ : World, KeepBut w W_ g none →
   W_.heap[gx]? = some (.cells #[.pointer (some ⟨g, 0, none⟩), .slice a1 U.1.length c1, .slice a2 U.2.length c2, .slice a3 C0.1.length c3, .slice a4 C0.2.length c4, .slice a5 C1.1.length c5, .slice a6 C1.2.length c6, .slice a7 ws.length c7] 86 (0, 0)) ∧
   Kd.C k103 W_ a1 U.1.length U.1 ∧ Kd.C Kd.string W_ a2 U.2.length U.2 ∧ Kd.C k103 W_ a3 C0.1.length C0.1 ∧ Kd.C Kd.string W_ a4 C0.2.length C0.2 ∧ Kd.C k103 W_ a5 C1.1.length C1.1 ∧ Kd.C Kd.string W_ a6 C1.2.length C1.2 ∧ Kd.C Kd.string W_ a7 ws.length ws
theorem Xok.keep {g gx : Nat} {U C0 C1 : List S103 × List ByteArray} {ws : List ByteArray} {w w' : World} (h : Xok g gx U C0 C1 ws w) (k : KeepBut w w' g none) : Xok g gx U C0 C1 ws w' := by
 obtain ⟨a1, a2, a3, a4, a5, a6, a7, c1, c2, c3, c4, c5, c6, c7, hl, hf, hW⟩ := h
 exact ⟨a1, a2, a3, a4, a5, a6, a7, c1, c2, c3, c4, c5, c6, c7, hl, hf, fun W_ q => hW W_ (k.trans q (.inl rfl))⟩
def runs_reader_runG.f (k : Nat) (U C0 C1 : List S103 × List ByteArray) (s0_0 : List Int) (s0_1 : Int) (s0_2 : Bool) (c : Int) : Option (Int × Int × Int × Bool) :=
 (runs_reader_number.f k s0_0 s0_1 s0_2 U.1 U.2).bind fun n => (if n.2.1 = 0 then
  ((runs_reader_number.f k s0_0 n.2.2.1 n.2.2.2 (if c = 0 then C0.1 else C1.1) (if c = 0 then C0.2 else C1.2)).bind fun m => (if m.2.1 = 0 then
   (if m.1 ≥ 64 then some (0, 3, m.2.2.1, m.2.2.2) else some (wrap64 (wrap64 (n.1 * 64) + m.1), 0, m.2.2.1, m.2.2.2)) else some (0, m.2.1, m.2.2.1, m.2.2.2)))
  else some (0, n.2.1, n.2.2.1, n.2.2.2))
set_option maxHeartbeats 8000000 in
set_option maxRecDepth 100000 in
theorem runs_reader_runG.calls (k : Nat) (g gx : Nat) (U C0 C1 : List S103 × List ByteArray) (ws : List ByteArray) (s0_0 : List Int) (s0_1 : Int) (s0_2 : Bool) (c : Int) (hc : c = 0 ∨ c = 1) (r1 r2 r3 : Int) (r4 : Bool) (w0 w : World) (hI : IsS107 w0 w g s0_0 s0_1 s0_2) (hB : Below w0.heap.size w0 w) (hX : Xok g gx U C0 C1 ws w)
  (h : runs_reader_runG.f k U C0 C1 s0_0 s0_1 s0_2 c = some (r1, r2, r3, r4)) :
  Calls Tryd.prog 47 #[.pointer (some ⟨gx, 0, none⟩), .int .i64 c] w fun e w' => e = .returned (.tuple #[.int .i64 r1, .int .i64 r2]) ∧ IsS107 w0 w' g s0_0 r3 r4 ∧ Below w0.heap.size w0 w' ∧ KeepBut w w' g none := by
 have hu86 := Tryd.underlying86
 have hu83 := Tryd.underlying83
 have hu84 := Tryd.underlying84
 unfold runs_reader_runG.f at h
 obtain ⟨⟨n1, n2, n3, n4⟩, A1, h⟩ := Option.bind_eq_some_iff.mp h
 replace h : (if n2 = 0 then _ else _) = some (r1, r2, r3, r4) := h
 obtain ⟨a1, a2, a3, a4, a5, a6, a7, c1, c2, c3, c4, c5, c6, c7, ⟨l1, l2, l3, l4, l5, l6, l7⟩, ⟨f2, f4, f6, f7⟩, hW⟩ := hX
 have HW := Aside0.mk hW
 clear hW
 have cells : ∀ W_ : World, KeepBut w W_ g none → _ := fun W_ q => cz8f (HW.out W_ q).1
 have CL := Aside0.mk cells
 clear cells
 have A1' := Aside0.mk A1
 clear A1
 have HH := Aside0.mk h
 clear h
 obtain ⟨hx0, hx1, hx2, hx3, hx4, hx5, hx6, hx7, _⟩ := CL.out w (KeepBut.refl w g none)
 have n2z : n2 = 0 ∨ n2 ≠ 0 := by omega
 rcases n2z with z | z
 ·subst z
  have hh := HH.out
  rw [if_pos rfl] at hh
  clear HH
  obtain ⟨⟨m1, m2, m3, m4⟩, A2, hh⟩ := Option.bind_eq_some_iff.mp hh
  replace hh : (if m2 = 0 then (if m1 ≥ 64 then some (0, 3, m3, m4) else some (wrap64 (wrap64 (n1 * 64) + m1), 0, m3, m4)) else some (0, m2, m3, m4)) = some (r1, r2, r3, r4) := hh
  have HH := Aside0.mk hh
  clear hh
  have A2' := Aside0.mk A2
  clear A2
  have step1 : ∀ w1 : World, KeepBut w w1 g none → IsS107 w0 w1 g s0_0 n3 n4 → Below w0.heap.size w0 w1 → ∀ (a : Option Addr) (cc : Nat) (b : Option Addr) (cb : Nat) (x : List S103) (y : List ByteArray), x.length ≤ cc → y.length ≤ cb → (∀ ad, b = some ad → 0 < y.length → ad.block ≠ g) → (∀ W_ : World, KeepBut w W_ g none → Kd.C k103 W_ a x.length x ∧ Kd.C Kd.string W_ b y.length y) →
    runs_reader_number.f k s0_0 n3 n4 x y = some (m1, m2, m3, m4) →
    Calls Tryd.prog 59 #[.pointer (some ⟨gx, 0, none⟩), .agg #[.slice a x.length cc, .slice b y.length cb]] w1 fun e w' => e = .returned (.tuple #[.int .i64 m1, .int .i64 m2]) ∧ IsS107 w0 w' g s0_0 m3 m4 ∧ Below w0.heap.size w0 w' ∧ KeepBut w w' g none := by
   intro w1 hk hi hb a cc b cb x y hx hy hbf hR hA
   refine (runs_reader_number.calls k g s0_0 n3 n4 _ _ x _ _ y m1 m2 m3 m4 w0 _ hi hb (fun W_ q => (hR W_ (hk.trans q (.inl rfl))).1) hx (hR w1 hk).2 hy hbf gx (fun W_ q => (CL.out W_ (hk.trans q (.inl rfl))).1) hA).mono ?_
   rintro e w2 ⟨h1, h2, h3, h4⟩
   exact ⟨h1, h2, h3, hk.trans h4 (.inl rfl)⟩
  have S1 := Aside0.mk step1
  clear step1
  rcases hc with z | z
  ·subst z
   have A3 := Aside0.mk (show runs_reader_number.f k s0_0 n3 n4 C0.1 C0.2 = some (m1, m2, m3, m4) from A2'.out)
   clear A2'
   by_cases q2 : m2 = 0
   ·subst q2
    have hh := HH.out
    rw [if_pos rfl] at hh
    clear HH
    by_cases q3 : m1 ≥ 64
    ·rw [if_pos q3] at hh
     have q3b : decide (64 ≤ m1) = true := decide_eq_true q3
     simp only [Option.some.injEq, Prod.mk.injEq] at hh
     obtain ⟨rfl, rfl, rfl, rfl⟩ := hh
     go_enter Tryd.func47, Tryd.ntmps47
     go_wp2_with (first | (refine gF 59 15 Tryd.func59 #[.pointer (some ⟨gx, 0, none⟩), .agg #[.slice a1 U.1.length c1, .slice a2 U.2.length c2]] rfl rfl ?_; (with_reducible refine (runs_reader_number.calls k g s0_0 s0_1 s0_2 _ _ U.1 _ _ U.2 n1 0 n3 n4 w0 _ hI hB (fun W_ q => (HW.out W_ q).2.1) l1 (HW.out _ (KeepBut.refl _ g none)).2.2.1 l2 f2 gx (fun W_ q => (CL.out W_ q).1) A1'.out).mono ?_); rintro e w1 ⟨rfl, hi, hb, hk⟩; refine ⟨_, rfl, ?_⟩; obtain ⟨hy0, hy1, hy2, hy3, hy4, hy5, hy6, hy7, _⟩ := CL.out w1 hk) | (refine gF 59 29 Tryd.func59 #[.pointer (some ⟨gx, 0, none⟩), .agg #[.slice a3 C0.1.length c3, .slice a4 C0.2.length c4]] rfl rfl ?_; (with_reducible refine (S1.out _ hk hi hb a3 c3 a4 c4 C0.1 C0.2 l3 l4 f4 (fun W_ q => ⟨(HW.out W_ q).2.2.2.1, (HW.out W_ q).2.2.2.2.1⟩) A3.out).mono ?_); rintro e w2 ⟨rfl, hi2, hb2, hk2⟩; refine ⟨_, rfl, ?_⟩))
     go_ret2
     exact ⟨re, hi2, hb2, hk2⟩
    ·rw [if_neg q3] at hh
     have q3b : decide (64 ≤ m1) = false := decide_eq_false q3
     simp only [Option.some.injEq, Prod.mk.injEq] at hh
     obtain ⟨rfl, rfl, rfl, rfl⟩ := hh
     go_enter Tryd.func47, Tryd.ntmps47
     go_wp2_with (first | (refine gF 59 15 Tryd.func59 #[.pointer (some ⟨gx, 0, none⟩), .agg #[.slice a1 U.1.length c1, .slice a2 U.2.length c2]] rfl rfl ?_; (with_reducible refine (runs_reader_number.calls k g s0_0 s0_1 s0_2 _ _ U.1 _ _ U.2 n1 0 n3 n4 w0 _ hI hB (fun W_ q => (HW.out W_ q).2.1) l1 (HW.out _ (KeepBut.refl _ g none)).2.2.1 l2 f2 gx (fun W_ q => (CL.out W_ q).1) A1'.out).mono ?_); rintro e w1 ⟨rfl, hi, hb, hk⟩; refine ⟨_, rfl, ?_⟩; obtain ⟨hy0, hy1, hy2, hy3, hy4, hy5, hy6, hy7, _⟩ := CL.out w1 hk) | (refine gF 59 29 Tryd.func59 #[.pointer (some ⟨gx, 0, none⟩), .agg #[.slice a3 C0.1.length c3, .slice a4 C0.2.length c4]] rfl rfl ?_; (with_reducible refine (S1.out _ hk hi hb a3 c3 a4 c4 C0.1 C0.2 l3 l4 f4 (fun W_ q => ⟨(HW.out W_ q).2.2.2.1, (HW.out W_ q).2.2.2.2.1⟩) A3.out).mono ?_); rintro e w2 ⟨rfl, hi2, hb2, hk2⟩; refine ⟨_, rfl, ?_⟩))
     go_ret2
     exact ⟨re, hi2, hb2, hk2⟩
   ·have hh := HH.out
    rw [if_neg q2] at hh
    have q2b : (m2 != 0) = true := by simpa using q2
    clear HH
    simp only [Option.some.injEq, Prod.mk.injEq] at hh
    obtain ⟨rfl, rfl, rfl, rfl⟩ := hh
    go_enter Tryd.func47, Tryd.ntmps47
    go_wp2_with (first | (refine gF 59 15 Tryd.func59 #[.pointer (some ⟨gx, 0, none⟩), .agg #[.slice a1 U.1.length c1, .slice a2 U.2.length c2]] rfl rfl ?_; (with_reducible refine (runs_reader_number.calls k g s0_0 s0_1 s0_2 _ _ U.1 _ _ U.2 n1 0 n3 n4 w0 _ hI hB (fun W_ q => (HW.out W_ q).2.1) l1 (HW.out _ (KeepBut.refl _ g none)).2.2.1 l2 f2 gx (fun W_ q => (CL.out W_ q).1) A1'.out).mono ?_); rintro e w1 ⟨rfl, hi, hb, hk⟩; refine ⟨_, rfl, ?_⟩; obtain ⟨hy0, hy1, hy2, hy3, hy4, hy5, hy6, hy7, _⟩ := CL.out w1 hk) | (refine gF 59 29 Tryd.func59 #[.pointer (some ⟨gx, 0, none⟩), .agg #[.slice a3 C0.1.length c3, .slice a4 C0.2.length c4]] rfl rfl ?_; (with_reducible refine (S1.out _ hk hi hb a3 c3 a4 c4 C0.1 C0.2 l3 l4 f4 (fun W_ q => ⟨(HW.out W_ q).2.2.2.1, (HW.out W_ q).2.2.2.2.1⟩) A3.out).mono ?_); rintro e w2 ⟨rfl, hi2, hb2, hk2⟩; refine ⟨_, rfl, ?_⟩))
    go_ret2
    exact ⟨re, hi2, hb2, hk2⟩
  ·subst z
   have A3 := Aside0.mk (show runs_reader_number.f k s0_0 n3 n4 C1.1 C1.2 = some (m1, m2, m3, m4) from A2'.out)
   clear A2'
   by_cases q2 : m2 = 0
   ·subst q2
    have hh := HH.out
    rw [if_pos rfl] at hh
    clear HH
    by_cases q3 : m1 ≥ 64
    ·rw [if_pos q3] at hh
     have q3b : decide (64 ≤ m1) = true := decide_eq_true q3
     simp only [Option.some.injEq, Prod.mk.injEq] at hh
     obtain ⟨rfl, rfl, rfl, rfl⟩ := hh
     go_enter Tryd.func47, Tryd.ntmps47
     go_wp2_with (first | (refine gF 59 15 Tryd.func59 #[.pointer (some ⟨gx, 0, none⟩), .agg #[.slice a1 U.1.length c1, .slice a2 U.2.length c2]] rfl rfl ?_; (with_reducible refine (runs_reader_number.calls k g s0_0 s0_1 s0_2 _ _ U.1 _ _ U.2 n1 0 n3 n4 w0 _ hI hB (fun W_ q => (HW.out W_ q).2.1) l1 (HW.out _ (KeepBut.refl _ g none)).2.2.1 l2 f2 gx (fun W_ q => (CL.out W_ q).1) A1'.out).mono ?_); rintro e w1 ⟨rfl, hi, hb, hk⟩; refine ⟨_, rfl, ?_⟩; obtain ⟨hy0, hy1, hy2, hy3, hy4, hy5, hy6, hy7, _⟩ := CL.out w1 hk) | (refine gF 59 29 Tryd.func59 #[.pointer (some ⟨gx, 0, none⟩), .agg #[.slice a5 C1.1.length c5, .slice a6 C1.2.length c6]] rfl rfl ?_; (with_reducible refine (S1.out _ hk hi hb a5 c5 a6 c6 C1.1 C1.2 l5 l6 f6 (fun W_ q => ⟨(HW.out W_ q).2.2.2.2.2.1, (HW.out W_ q).2.2.2.2.2.2.1⟩) A3.out).mono ?_); rintro e w2 ⟨rfl, hi2, hb2, hk2⟩; refine ⟨_, rfl, ?_⟩))
     go_ret2
     exact ⟨re, hi2, hb2, hk2⟩
    ·rw [if_neg q3] at hh
     have q3b : decide (64 ≤ m1) = false := decide_eq_false q3
     simp only [Option.some.injEq, Prod.mk.injEq] at hh
     obtain ⟨rfl, rfl, rfl, rfl⟩ := hh
     go_enter Tryd.func47, Tryd.ntmps47
     go_wp2_with (first | (refine gF 59 15 Tryd.func59 #[.pointer (some ⟨gx, 0, none⟩), .agg #[.slice a1 U.1.length c1, .slice a2 U.2.length c2]] rfl rfl ?_; (with_reducible refine (runs_reader_number.calls k g s0_0 s0_1 s0_2 _ _ U.1 _ _ U.2 n1 0 n3 n4 w0 _ hI hB (fun W_ q => (HW.out W_ q).2.1) l1 (HW.out _ (KeepBut.refl _ g none)).2.2.1 l2 f2 gx (fun W_ q => (CL.out W_ q).1) A1'.out).mono ?_); rintro e w1 ⟨rfl, hi, hb, hk⟩; refine ⟨_, rfl, ?_⟩; obtain ⟨hy0, hy1, hy2, hy3, hy4, hy5, hy6, hy7, _⟩ := CL.out w1 hk) | (refine gF 59 29 Tryd.func59 #[.pointer (some ⟨gx, 0, none⟩), .agg #[.slice a5 C1.1.length c5, .slice a6 C1.2.length c6]] rfl rfl ?_; (with_reducible refine (S1.out _ hk hi hb a5 c5 a6 c6 C1.1 C1.2 l5 l6 f6 (fun W_ q => ⟨(HW.out W_ q).2.2.2.2.2.1, (HW.out W_ q).2.2.2.2.2.2.1⟩) A3.out).mono ?_); rintro e w2 ⟨rfl, hi2, hb2, hk2⟩; refine ⟨_, rfl, ?_⟩))
     go_ret2
     exact ⟨re, hi2, hb2, hk2⟩
   ·have hh := HH.out
    rw [if_neg q2] at hh
    have q2b : (m2 != 0) = true := by simpa using q2
    clear HH
    simp only [Option.some.injEq, Prod.mk.injEq] at hh
    obtain ⟨rfl, rfl, rfl, rfl⟩ := hh
    go_enter Tryd.func47, Tryd.ntmps47
    go_wp2_with (first | (refine gF 59 15 Tryd.func59 #[.pointer (some ⟨gx, 0, none⟩), .agg #[.slice a1 U.1.length c1, .slice a2 U.2.length c2]] rfl rfl ?_; (with_reducible refine (runs_reader_number.calls k g s0_0 s0_1 s0_2 _ _ U.1 _ _ U.2 n1 0 n3 n4 w0 _ hI hB (fun W_ q => (HW.out W_ q).2.1) l1 (HW.out _ (KeepBut.refl _ g none)).2.2.1 l2 f2 gx (fun W_ q => (CL.out W_ q).1) A1'.out).mono ?_); rintro e w1 ⟨rfl, hi, hb, hk⟩; refine ⟨_, rfl, ?_⟩; obtain ⟨hy0, hy1, hy2, hy3, hy4, hy5, hy6, hy7, _⟩ := CL.out w1 hk) | (refine gF 59 29 Tryd.func59 #[.pointer (some ⟨gx, 0, none⟩), .agg #[.slice a5 C1.1.length c5, .slice a6 C1.2.length c6]] rfl rfl ?_; (with_reducible refine (S1.out _ hk hi hb a5 c5 a6 c6 C1.1 C1.2 l5 l6 f6 (fun W_ q => ⟨(HW.out W_ q).2.2.2.2.2.1, (HW.out W_ q).2.2.2.2.2.2.1⟩) A3.out).mono ?_); rintro e w2 ⟨rfl, hi2, hb2, hk2⟩; refine ⟨_, rfl, ?_⟩))
    go_ret2
    exact ⟨re, hi2, hb2, hk2⟩
 ·have q : (n2 != 0) = true := by simpa using z
  have hh := HH.out
  rw [if_neg z] at hh
  simp only [Option.some.injEq, Prod.mk.injEq] at hh
  obtain ⟨rfl, rfl, rfl, rfl⟩ := hh
  clear HH
  go_enter Tryd.func47, Tryd.ntmps47
  go_wp2_with (first | (refine gF 59 15 Tryd.func59 #[.pointer (some ⟨gx, 0, none⟩), .agg #[.slice a1 U.1.length c1, .slice a2 U.2.length c2]] rfl rfl ?_; (with_reducible refine (runs_reader_number.calls k g s0_0 s0_1 s0_2 _ _ U.1 _ _ U.2 n1 n2 n3 n4 w0 _ hI hB (fun W_ q => (HW.out W_ q).2.1) l1 (HW.out _ (KeepBut.refl _ g none)).2.2.1 l2 f2 gx (fun W_ q => (CL.out W_ q).1) A1'.out).mono ?_); rintro e w1 ⟨rfl, hi, hb, hk⟩; refine ⟨_, rfl, ?_⟩))
  go_ret2
  exact ⟨re, hi, hb, hk⟩
def tU : List S103 × List ByteArray := ([⟨1, 0, 0, 0⟩, ⟨2, 1, 1, 0⟩, ⟨3, 3, 3, 0⟩, ⟨4, 5, 11, 0⟩, ⟨5, 8, 43, 0⟩, ⟨5, 20, 299, 0⟩], [⟨#[48]⟩, ⟨#[49, 48]⟩, ⟨#[49, 49, 48]⟩, ⟨#[49, 49, 49, 48]⟩, ⟨#[49, 49, 49, 49, 48]⟩, ⟨#[49, 49, 49, 49, 49]⟩])
def tC0 : List S103 × List ByteArray := ([⟨2, 2, 0, 0⟩, ⟨2, 3, 4, 0⟩, ⟨2, 4, 12, 0⟩, ⟨2, 6, 28, 0⟩], [⟨#[48, 48]⟩, ⟨#[48, 49]⟩, ⟨#[49, 48]⟩, ⟨#[49, 49]⟩])
def tC1 : List S103 × List ByteArray := ([⟨1, 1, 0, 0⟩, ⟨2, 1, 2, 0⟩, ⟨3, 2, 4, 0⟩, ⟨3, 6, 8, 0⟩], [⟨#[48]⟩, ⟨#[49, 48]⟩, ⟨#[49, 49, 48]⟩, ⟨#[49, 49, 49]⟩])
def tW : List ByteArray := [⟨#[48, 48, 48, 49]⟩, ⟨#[48, 48, 49]⟩, ⟨#[48, 48, 48, 48, 48, 49, 48]⟩, ⟨#[48, 48, 48, 48, 49, 48]⟩, ⟨#[48, 49, 48]⟩, ⟨#[49]⟩, ⟨#[48, 49, 49]⟩, ⟨#[48, 48, 48, 48, 49, 49]⟩, ⟨#[48, 48, 48, 48, 48, 49, 49]⟩]
def runs_reader_run.f (k : Nat) (s0_0 : List Int) (s0_1 : Int) (s0_2 : Bool) (a1 : Int) : Option (Int × Int × Int × Bool) :=
 if a1 = 0 ∨ a1 = 1 then runs_reader_runG.f k tU tC0 tC1 s0_0 s0_1 s0_2 a1 else none
theorem runs_reader_run.mono : ∀ a0 a1 a2 a3 k, LeO (runs_reader_run.f k a0 a1 a2 a3) (runs_reader_run.f (k + 1) a0 a1 a2 a3) := by
 intro a0 a1 a2 a3 k
 unfold runs_reader_run.f
 refine LeO.ite ?_ (LeO.refl _)
 unfold runs_reader_runG.f
 refine LeO.bind (runs_reader_number.mono _ _ _ _ _ k) (fun n => ?_)
 refine LeO.ite ?_ (LeO.refl _)
 exact LeO.bind (runs_reader_number.mono _ _ _ _ _ k) (fun m => LeO.refl _)
theorem runs_reader_run.calls (k : Nat) (g : Nat) (s0_0 : List Int) (s0_1 : Int) (s0_2 : Bool) (a1 : Int) (r1 r2 r3 : Int) (r4 : Bool) (w0 w : World) (hI : IsS107 w0 w g s0_0 s0_1 s0_2) (hB : Below w0.heap.size w0 w) (gx : Nat) (hX : Xok g gx tU tC0 tC1 tW w) (h : runs_reader_run.f k s0_0 s0_1 s0_2 a1 = some (r1, r2, r3, r4)) :
  Calls Tryd.prog 47 #[.pointer (some ⟨gx, 0, none⟩), .int .i64 a1] w fun e w' => e = .returned (.tuple #[.int .i64 r1, .int .i64 r2]) ∧ IsS107 w0 w' g s0_0 r3 r4 ∧ Below w0.heap.size w0 w' ∧ KeepBut w w' g none := by
 unfold runs_reader_run.f at h
 by_cases hc : a1 = 0 ∨ a1 = 1
 ·rw [if_pos hc] at h
  exact runs_reader_runG.calls k g gx tU tC0 tC1 tW s0_0 s0_1 s0_2 a1 hc r1 r2 r3 r4 w0 w hI hB hX h
 ·rw [if_neg hc] at h
  exact absurd h (by simp)
def bits_Mul32.f (a0 : Int) (a1 : Int) : Option (Int × Int) := some (((IntKind.u64.wrap ((IntKind.u64.wrap (a0)) * (IntKind.u64.wrap (a1)))) / 4294967296) % 4294967296, (IntKind.u64.wrap ((IntKind.u64.wrap (a0)) * (IntKind.u64.wrap (a1)))) % 4294967296)
set_option maxHeartbeats 8000000 in
set_option maxRecDepth 100000 in
theorem bits_Mul32.calls (a0 : Int) (a1 : Int) (r1 : Int) (r2 : Int) (w : World) (h : bits_Mul32.f a0 a1 = some (r1, r2)) :
  Calls Tryd.prog 71 #[.int .u32 a0, .int .u32 a1] w fun e w' => e = .returned (.tuple #[.int .u32 r1, .int .u32 r2]) ∧ Drawn0 w w' := by
 have H := h
 unfold bits_Mul32.f at H
 clear h
 simp only [Option.some.injEq, Prod.mk.injEq] at H
 obtain ⟨rfl, rfl⟩ := H
 go_enter Tryd.func71, Tryd.ntmps71
 go_wp2
 go_ret2
 exact ⟨by first | rfl | (simp; done) | (simp [*]; done), by repeat (first | exact Drawn0.refl _ | apply Drawn0.step)⟩
def bits_Mul64.f (a0 : Int) (a1 : Int) : Option (Int × Int) := some (IntKind.u64.wrap ((IntKind.u64.wrap ((IntKind.u64.wrap ((a0 / 4294967296) * (a1 / 4294967296))) + ((IntKind.u64.wrap ((IntKind.u64.wrap ((a0 / 4294967296) * (Go.bits .and .u64 a1 4294967295))) + ((IntKind.u64.wrap ((Go.bits .and .u64 a0 4294967295) * (Go.bits .and .u64 a1 4294967295))) / 4294967296))) / 4294967296))) + ((IntKind.u64.wrap ((Go.bits .and .u64 (IntKind.u64.wrap ((IntKind.u64.wrap ((a0 / 4294967296) * (Go.bits .and .u64 a1 4294967295))) + ((IntKind.u64.wrap ((Go.bits .and .u64 a0 4294967295) * (Go.bits .and .u64 a1 4294967295))) / 4294967296))) 4294967295) + (IntKind.u64.wrap ((Go.bits .and .u64 a0 4294967295) * (a1 / 4294967296))))) / 4294967296)), IntKind.u64.wrap (a0 * a1))
set_option maxHeartbeats 8000000 in
set_option maxRecDepth 100000 in
theorem bits_Mul64.calls (a0 : Int) (a1 : Int) (r1 : Int) (r2 : Int) (w : World) (h : bits_Mul64.f a0 a1 = some (r1, r2)) :
  Calls Tryd.prog 72 #[.int .u64 a0, .int .u64 a1] w fun e w' => e = .returned (.tuple #[.int .u64 r1, .int .u64 r2]) ∧ Drawn0 w w' := by
 have H := h
 unfold bits_Mul64.f at H
 clear h
 simp only [Option.some.injEq, Prod.mk.injEq] at H
 obtain ⟨rfl, rfl⟩ := H
 go_enter Tryd.func72, Tryd.ntmps72
 go_wp2
 go_ret2
 exact ⟨by first | rfl | (simp; done) | (simp [*]; done), by repeat (first | exact Drawn0.refl _ | apply Drawn0.step)⟩
def bits_Mul.f (a0 : Int) (a1 : Int) : Option (Int × Int) := (bits_Mul64.f a0 a1).bind fun bt484 => (some (bt484.1, bt484.2))
set_option maxHeartbeats 8000000 in
set_option maxRecDepth 100000 in
theorem bits_Mul.calls (a0 : Int) (a1 : Int) (r1 : Int) (r2 : Int) (w : World) (h : bits_Mul.f a0 a1 = some (r1, r2)) :
  Calls Tryd.prog 60 #[.int .u64 a0, .int .u64 a1] w fun e w' => e = .returned (.tuple #[.int .u64 r1, .int .u64 r2]) ∧ Drawn0 w w' := by
 have H : ((bits_Mul64.f a0 a1).bind fun bt484 => (some (bt484.1, bt484.2))) = some (r1, r2) := h
 clear h
 obtain ⟨⟨t484, t485⟩, A3, H⟩ := oB H
 try dsimp only at H
 simp only [Option.some.injEq, Prod.mk.injEq] at H
 obtain ⟨rfl, rfl⟩ := H
 go_enter Tryd.func60, Tryd.ntmps60
 go_wp2_with (first | (refine gF 72 25 Tryd.func72 #[.int .u64 a0, .int .u64 a1] rfl rfl ?_; (with_reducible refine (bits_Mul64.calls a0 a1 t484 t485 _ A3.out).mono ?_); rintro e w' ⟨rfl, ⟨nd, rfl⟩⟩; refine ⟨_, rfl, ?_⟩))
 go_ret2
 exact ⟨by first | rfl | (simp; done) | (simp [*]; done), by repeat (first | exact Drawn0.refl _ | apply Drawn0.step)⟩
mutual
def slices_Repeat_byte_byte.j0 : Nat → List Int → Int → Bool → Option (List Int)
 | 0, _, _, _ => none
 | k + 1, x0, x6, x26 => if x26 = true then (none) else (if 0 ≤ (wrap64 (x6)) then (if (wrap64 (x6) : Int).toNat ≤ 281474976710656 then ((some (List.replicate (wrap64 (x6) : Int).toNat 0 : List Int)).bind fun y488 => (slices_Repeat_byte_byte.l0 k (cpy y488 0 y488.length x0) ((min x0.length y488.length : Nat) : Int))) else (none)) else (none))
def slices_Repeat_byte_byte.l0 : Nat → List Int → Int → Option (List Int)
 | 0, _, _ => none
 | k + 1, x7, x8 => if x8 < (x7.length : Int) then (if 0 ≤ x8 then (if x8 ≤ (x7.length : Int) then ((some (x7.drop (x8 : Int).toNat : List Int)).bind fun y492 => ((some (x7.take (x8 : Int).toNat : List Int)).bind fun y496 => (slices_Repeat_byte_byte.l0 k (cpy x7 ((x8 : Int).toNat) y492.length y496) (wrap64 (x8 + ((min y496.length y492.length : Nat) : Int)))))) else (none)) else (none)) else (some x7)
end
def slices_Repeat_byte_byte.f (k : Nat) (l0 : List Int) (a1 : Int) : Option (List Int) := if a1 < 0 then (none) else ((bits_Mul.f (IntKind.u64.wrap ((l0.length : Int))) (IntKind.u64.wrap (a1))).bind fun bt486 => (if bt486.1 > 0 then (slices_Repeat_byte_byte.j0 k l0 bt486.2 true) else (slices_Repeat_byte_byte.j0 k l0 bt486.2 (decide (bt486.2 > 9223372036854775807)))))
theorem slices_Repeat_byte_byte.mono_l : ∀ k, (∀ y0 y1 y2, LeO (slices_Repeat_byte_byte.j0 k y0 y1 y2) (slices_Repeat_byte_byte.j0 (k + 1) y0 y1 y2)) ∧ (∀ y0 y1, LeO (slices_Repeat_byte_byte.l0 k y0 y1) (slices_Repeat_byte_byte.l0 (k + 1) y0 y1))
 | 0 => ⟨fun _ _ _ r h => by simp [slices_Repeat_byte_byte.j0] at h, fun _ _ r h => by simp [slices_Repeat_byte_byte.l0] at h⟩
 | k + 1 => by
  obtain ⟨ih0, ih1⟩ := slices_Repeat_byte_byte.mono_l k
  refine ⟨?_, ?_⟩
  ·intro y0 y1 y2
   unfold slices_Repeat_byte_byte.j0
   repeat' first
   | (with_reducible exact ih0 _ _ _)
   | (with_reducible exact ih1 _ _)
   | (with_reducible first | exact LeO.refl _ | exact LeO.none _ | refine LeO.ite ?_ ?_ | refine LeO.bind ?_ (fun _ => ?_))
  ·intro y0 y1
   unfold slices_Repeat_byte_byte.l0
   repeat' first
   | (with_reducible exact ih0 _ _ _)
   | (with_reducible exact ih1 _ _)
   | (with_reducible first | exact LeO.refl _ | exact LeO.none _ | refine LeO.ite ?_ ?_ | refine LeO.bind ?_ (fun _ => ?_))
theorem slices_Repeat_byte_byte.mono : ∀ a0 a1 k, LeO (slices_Repeat_byte_byte.f k a0 a1) (slices_Repeat_byte_byte.f (k + 1) a0 a1) := by
 intro a0 a1 k
 obtain ⟨ih0, ih1⟩ := slices_Repeat_byte_byte.mono_l k
 unfold slices_Repeat_byte_byte.f
 repeat' first
   | (with_reducible exact ih0 _ _ _)
   | (with_reducible exact ih1 _ _)
   | (with_reducible first | exact LeO.refl _ | exact LeO.none _ | refine LeO.ite ?_ ?_ | refine LeO.bind ?_ (fun _ => ?_))
def slices_Repeat_byte_byte.T9 : Bool × List (List Nat × List Nat) := (true, [([], []), ([], []), ([], []), ([1, 2], [1, 2]), ([], []), ([], []), ([4, 5], [4, 5]), ([3, 6], [3, 6]), ([0, 7], [0, 7]), ([8, 7, 0, 1, 2, 3, 4, 5, 6, 7, 8], [0, 2, 5, 8])])
def slices_Repeat_byte_byte.B9 : List Nat := [0, 0, 0, 6, 0, 0, 48, 126, 255, 511]
theorem slices_Repeat_byte_byte.tab9 : rtab .any (opsOf Tryd.f48 9) = slices_Repeat_byte_byte.T9 := by kernel_rfl
theorem slices_Repeat_byte_byte.bits9 : waitsOk slices_Repeat_byte_byte.T9.2 slices_Repeat_byte_byte.B9 = true := by kernel_rfl
set_option maxHeartbeats 8000000 in
set_option maxRecDepth 100000 in
theorem slices_Repeat_byte_byte.calls (k : Nat) (A0 : Option Addr) (c0 : Nat) (l0 : List Int) (a1 : Int) (r : List Int) (w : World) (hr0 : Kd.C (Kd.int .u8) w A0 l0.length l0) (hc0 : l0.length ≤ c0) (h : slices_Repeat_byte_byte.f k l0 a1 = some r) :
  Calls Tryd.prog 48 #[.slice A0 l0.length c0, .int .i64 a1] w fun e w' => ∃ v0_ : Value, e = .returned (v0_) ∧ Kd.R (Kd.int .u8) 5 w' w.heap.size (fun _ => True) v0_ r ∧ Below w.heap.size w w' := by
 have HR0 := Aside0.mk hr0
 have HC0 := Aside0.mk hc0
 clear hr0 hc0
 have HB := Aside0.mk (Below.refl w.heap.size w)
 have H := h
 unfold slices_Repeat_byte_byte.f at H
 clear h
 by_cases c3 : a1 < 0
 ·rw [if_pos c3] at H
  exact absurd H (by simp)
 ·rw [if_neg c3] at H
  have c3b0 := decide_eq_false c3
  clear c3
  obtain ⟨⟨t486, t487⟩, A4, H⟩ := oB H
  try dsimp only at H
  have HC5 := Aside0.mk H
  clear H
  go_enter Tryd.func48, Tryd.ntmps48
  go_upto_region 4 with (first | (refine gF 60 18 Tryd.func60 #[.int .u64 (IntKind.u64.wrap ((l0.length : Int))), .int .u64 (IntKind.u64.wrap (a1))] rfl rfl ?_; (with_reducible refine (bits_Mul.calls (IntKind.u64.wrap ((l0.length : Int))) (IntKind.u64.wrap (a1)) t486 t487 _ A4.out).mono ?_); rintro e w' ⟨rfl, ⟨nd, rfl⟩⟩; refine ⟨_, rfl, ?_⟩))
  (try simp only [Act.put, List.setIfInBounds_toArray, List.set_cons_zero, List.set_cons_succ])
  go_cut [26] (fun v26 wc => ∃ (kq : Nat) (x26_4 : Bool), v26 = .bool x26_4 ∧ Aside0 (slices_Repeat_byte_byte.j0 kq l0 t487 x26_4 = some r) ∧ Aside0 (kq ≤ k) ∧ Aside0 (Below w.heap.size w wc))
  case first =>
   have H := HC5.out
   clear HC5
   rcases iL H with H1 | H1 <;> clear H <;> obtain ⟨H, c6b0⟩ := H1
   ·(first | rw [c6b0] | (simp only [i64_w, i32_w]; rw [c6b0]) | skip)
    have H' := Aside0.mk H
    clear H
    go_wp2
    go_meet
    case rel => exact ⟨_, (true), rq, H', ⟨by first | omega | exact Nat.le_refl _⟩, ⟨bl⟩⟩
   ·(first | rw [c6b0] | (simp only [i64_w, i32_w]; rw [c6b0]) | skip)
    have H' := Aside0.mk H
    clear H
    go_wp2
    go_meet
    case rel => exact ⟨_, (decide (t487 > 9223372036854775807)), rq, H', ⟨by first | omega | exact Nat.le_refl _⟩, ⟨bl⟩⟩
  case rest =>
   clear HC5
   obtain ⟨kq, x26_4, rfl, HA, HJ4, HB⟩ := hcut
   cases kq with
   | zero => exact absurd HA.out (by simp [slices_Repeat_byte_byte.j0])
   | succ kj4 =>
    have H := HA.out
    clear HA
    simp only [slices_Repeat_byte_byte.j0] at H
    by_cases c7 : x26_4 = true
    ·subst c7
     rw [if_pos rfl] at H
     exact absurd H (by simp)
    ·replace c7 := Bool.eq_false_iff.mpr c7
     subst c7
     rw [if_neg Bool.false_ne_true] at H
     obtain ⟨ji8, hji8⟩ : ∃ j_ : Int, (wrap64 (t487)) = j_ := ⟨_, rfl⟩
     replace H : (if 0 ≤ (ji8) then (if (ji8 : Int).toNat ≤ 281474976710656 then ((some (List.replicate (ji8 : Int).toNat 0 : List Int)).bind fun y488 => (slices_Repeat_byte_byte.l0 kj4 (cpy y488 0 y488.length l0) ((min l0.length y488.length : Nat) : Int))) else (none)) else (none)) = some r := by first | (rw [hji8] at H; exact H) | (simp only [hji8] at H ⊢; exact H)
     have hji8w : (IntKind.i64.wrap (t487)) = ji8 := (i64_w _).trans hji8
     by_cases c9 : 0 ≤ (ji8)
     ·rw [if_pos c9] at H
      have c9b0 := eq_true c9
      have c9b1 := decide_eq_true c9
      clear c9
      by_cases c10 : (ji8 : Int).toNat ≤ 281474976710656
      ·rw [if_pos c10] at H
       have c10b0 := eq_true c10
       have c10b1 := decide_eq_true c10
       clear c10
       obtain ⟨y488, hy_⟩ : ∃ y_ : List Int, y_ = (List.replicate (ji8 : Int).toNat 0) := ⟨_, rfl⟩
       replace H : (slices_Repeat_byte_byte.l0 kj4 (cpy y488 0 y488.length l0) ((min l0.length y488.length : Nat) : Int)) = some r := rh
       have Ny488 := aE hy_
       clear hy_
       obtain ⟨y491, hy_⟩ : ∃ y_ : List Int, y_ = (cpy y488 0 y488.length l0) := ⟨_, rfl⟩
       replace H : (slices_Repeat_byte_byte.l0 kj4 y491 ((min l0.length y488.length : Nat) : Int)) = some r := rh
       have Ny491 := aE hy_
       clear hy_
       have H' := Aside0.mk H
       clear H
       (try apply_assumption)
       go_wp2_with (first | ((with_reducible refine gd 30 rfl ?_); refine Kd.R_make (Kd.int .u8) _ 5 rfl (N := 30) rfl 22 _ _ rfl ji8 rfl rfl Tryd.underlying22 (.int .u8 0) 1 info5 rfl (by decide) (by omega) 0 (ok := fun _ => True) (okp := fun _ => True) rfl (fun _ hk => hk) trivial (dt) (Nat.le_trans (Nat.mul_le_mul_right _ (dt : ji8.toNat ≤ 281474976710656)) (by omega)) (Below.refl _ _) (Nat.le_refl _) ?_; intro v489 w11 ho12 hb hg_ hnew_; clear hg_ hnew_; (first | rw [← Ny488.out] at ho12 | (simp only [Int.reduceToNat] at ho12; rw [← Ny488.out] at ho12)); have n_ := aC (Kd.R_lower ho12 bz) (aE (bs hb)); clear HB; obtain ⟨HO490, HB⟩ := n_; clear hb ho12; obtain ⟨Ao13, co13, eo13⟩ := Kd.R_slice HO490.out; subst eo13) | ((with_reducible refine gate_builtin (b := .copy) (xs := #[.tmp 31, .tmp 32]) rfl ?_); skip; have hk_ : 0 + y488.length ≤ y488.length := (by first | omega | (have h_ := (Kd.R_reads' (HO490.out)).1; omega)); refine Kd.R_copyin 0 (w0 := w) w.heap.size rfl (.tmp 31) (.tmp 32) 22 22 5 rfl Tryd.underlying22 (by kernel_rfl) (n := y488.length) (c := co13) (k := 0) (A0 := Ao13) (xs := y488) (ys := l0) rfl rfl ?hA (rU HO490.out) ?aR hk_ bl bz ?_; (case hA => exact (by first | rfl | (rw [if_pos rfl]) | (split <;> simp; done) | (split <;> simp [Go.Addr.add]))); (case aR => repeat (first | exact (Kd.C_below HR0.out HB.out) | (with_reducible refine Kd.C_alloc ?_ _) | (with_reducible refine Kd.C_drewN ?_ _) | (with_reducible refine Kd.C_drew ?_))); intro w14 ho hb hg; clear hk_; rw [← Ny491.out] at ho; have n_ := aC ho (aE hb); clear HO490 HB; obtain ⟨HO490, HB⟩ := n_; clear ho hb hg))
       go_loopg [8] kj4 (fun kq v8 w' => ∃ (x7_2 : List Int) (x8_2 : Int), v8 = .int .i64 x8_2 ∧ Aside0 (slices_Repeat_byte_byte.l0 kq x7_2 x8_2 = some r) ∧ Aside0 (kq ≤ kj4) ∧ Aside0 (Kd.R (Kd.int .u8) 5 w' w.heap.size (fun _ => True) (.slice Ao13 y488.length co13) x7_2) ∧ Aside0 (Below w.heap.size w w'))
       case atStart => exact ⟨(y491), (((min l0.length y488.length : Nat) : Int)), rq, H', ⟨Nat.le_refl _⟩, ⟨rU HO490.out⟩, ⟨bl⟩⟩
       case round =>
        clear H'
        obtain ⟨x7_2, x8_2, rfl, HA, HK2, HO_7, HB⟩ := hrel
        have hl7_2 := (Kd.R_reads' HO_7.out).1
        rw [hl7_2] at HO_7
        (try simp only [hl7_2])
        cases gk with
        | zero => exact absurd HA.out (by simp [slices_Repeat_byte_byte.l0])
        | succ k2 =>
         have H := HA.out
         clear HA
         simp only [slices_Repeat_byte_byte.l0] at H
         by_cases c15 : x8_2 < (x7_2.length : Int)
         ·rw [if_pos c15] at H
          have c15b0 := decide_eq_true c15
          (try (have c15b0_hl7_2 := c15b0; simp only [hl7_2] at c15b0_hl7_2))
          clear c15
          by_cases c16 : 0 ≤ x8_2
          ·rw [if_pos c16] at H
           have c16b0 := eq_true c16
           have c16b1 := decide_eq_true c16
           clear c16
           by_cases c17 : x8_2 ≤ (x7_2.length : Int)
           ·rw [if_pos c17] at H
            have c17b0 := eq_true c17
            have c17b1 := decide_eq_true c17
            (try (have c17b1_hl7_2 := c17b1; simp only [hl7_2] at c17b1_hl7_2))
            clear c17
            obtain ⟨y492, hy_⟩ : ∃ y_ : List Int, y_ = (x7_2.drop (x8_2 : Int).toNat) := ⟨_, rfl⟩
            replace H : ((some (x7_2.take (x8_2 : Int).toNat : List Int)).bind fun y496 => (slices_Repeat_byte_byte.l0 k2 (cpy x7_2 ((x8_2 : Int).toNat) y492.length y496) (wrap64 (x8_2 + ((min y496.length y492.length : Nat) : Int))))) = some r := rh
            have Ny492 := aE hy_
            clear hy_
            have c18b0 := eq_true (dt : 0 ≤ x8_2)
            have c19b0 := eq_true (dt : x8_2 ≤ (x7_2.length : Int))
            obtain ⟨y496, hy_⟩ : ∃ y_ : List Int, y_ = (x7_2.take (x8_2 : Int).toNat) := ⟨_, rfl⟩
            replace H : (slices_Repeat_byte_byte.l0 k2 (cpy x7_2 ((x8_2 : Int).toNat) y492.length y496) (wrap64 (x8_2 + ((min y496.length y492.length : Nat) : Int)))) = some r := rh
            have Ny496 := aE hy_
            clear hy_
            obtain ⟨y500, hy_⟩ : ∃ y_ : List Int, y_ = (cpy x7_2 ((x8_2 : Int).toNat) y492.length y496) := ⟨_, rfl⟩
            replace H : (slices_Repeat_byte_byte.l0 k2 y500 (wrap64 (x8_2 + ((min y496.length y492.length : Nat) : Int)))) = some r := rh
            have Ny500 := aE hy_
            clear hy_
            have H' := Aside0.mk H
            clear H
            try go_wp2
            have n_ := aC (Kd.R_drew HO_7.out) (aE (below_drew1 HB.out))
            clear HO_7 HB
            obtain ⟨HO_7, HB⟩ := n_
            have q21 : (x8_2 : Int) ≤ ((x7_2.length : Int) : Int) := dt
            obtain ⟨i021, hi021, _, hsz21, _⟩ := info_parts info5
            have hroom21 : x7_2.length ≤ co13 := (Kd.R_reads' HO_7.out).2.1
            have hC21 : Kd.C (Kd.int .u8) _ Ao13 x7_2.length x7_2 := (Kd.R_reads' HO_7.out).2.2
            have q021 : (0 : Int) ≤ (x8_2 : Int) := dt
            have hcut21 := cut_from (P := Tryd.prog) 22 5 .i64 Tryd.underlying22 hi021 1 hsz21 Ao13 x7_2.length co13 x8_2 q021 q21
            have hr21 := Kd.C_drop (m := (x8_2 : Int).toNat) (c := co13) hC21 (by omega) hroom21
            obtain ⟨A21, hA21⟩ : ∃ A1, A1 = (if co13 = (x8_2 : Int).toNat then Ao13 else (Ao13 : Option Addr).map (·.add ((x8_2 : Int).toNat * 1))) := ⟨_, rfl⟩
            obtain ⟨c21, hc21⟩ : ∃ c1, c1 = co13 - (x8_2 : Int).toNat := ⟨_, rfl⟩
            have hy21 : y492.length = x7_2.length - (x8_2 : Int).toNat := (by rw [Ny492.out, List.length_drop] <;> omega)
            rw [show (x7_2).drop (x8_2 : Int).toNat = y492 from Ny492.out.symm] at hr21
            replace hr21 : Kd.C (Kd.int .u8) _ A21 y492.length y492 := (by rw [hA21]; exact hr21)
            rw [← hy21, ← hA21, ← hc21] at hcut21
            have HR495 := Aside0.mk hr21
            have HC495 := Aside0.mk (show y492.length ≤ c21 from by rw [hy21, hc21]; exact Nat.sub_le_sub_right hroom21 _)
            clear hr21 hC21 hroom21 hi021 hsz21 hc21
            have KY21 := Aside0.mk hy21
            have KA21 := Aside0.mk hA21
            clear hy21 hA21
            have KL21 := Aside0.mk (show (x8_2 : Int).toNat ≤ x7_2.length from by omega)
            replace q21 := eq_true q21
            have q22 : (x8_2 : Int) ≤ ((x7_2.length : Int) : Int) := dt
            obtain ⟨i022, hi022, _, hsz22, _⟩ := info_parts info5
            have hroom22 : x7_2.length ≤ co13 := (Kd.R_reads' HO_7.out).2.1
            have hC22 : Kd.C (Kd.int .u8) _ Ao13 x7_2.length x7_2 := (Kd.R_reads' HO_7.out).2.2
            have hcut22 := cut_to (P := Tryd.prog) 22 5 .i64 Tryd.underlying22 hi022 Ao13 x7_2.length co13 x8_2 (dt) q22 hroom22
            have hr22 := Kd.C_take (m := (x8_2 : Int).toNat) hC22 (by omega)
            have hy22 : y496.length = (x8_2 : Int).toNat := (by rw [Ny496.out, List.length_take]; omega)
            rw [← Ny496.out] at hr22
            rw [← hy22] at hcut22
            have HR499 := Aside0.mk hr22
            have HC499 := Aside0.mk (show y496.length ≤ co13 from by omega)
            clear hr22 hC22 hroom22 hi022 hsz22
            have KY22 := Aside0.mk hy22
            clear hy22
            have KL22 := Aside0.mk (show (x8_2 : Int).toNat ≤ x7_2.length from by omega)
            replace q22 := eq_true q22
            refine st 10 (fun w' => True) [] (bv 10 0) slices_Repeat_byte_byte.tab9 slices_Repeat_byte_byte.bits9 trivial (fun hHeld HT_ HW_ => ?_)
            generalize wr.drew = w20 at HO_7 HB HR495 HR499 hHeld ⊢
            refine pu 0 38 (bv 10 1) HT_ rfl rfl ?_
            refine pu 1 39 (bv 10 3) HT_ rfl rfl ?_
            refine pu 2 40 (bv 10 7) HT_ rfl rfl ?_
            refine pu 3 41 (bv 10 15) HT_ rfl rfl ?_
            refine pu 4 42 (bv 10 31) HT_ rfl rfl ?_
            refine pu 5 43 (bv 10 63) HT_ rfl rfl ?_
            refine pu 6 44 (bv 10 127) HT_ rfl rfl ?_
            refine one_ (i := 7) (N := some 45) (bv 10 255) rfl rfl (one_of HT_.out (by kernel_rfl)) (by decide) (fun K hK => ?_)
            skip
            have hk_ : (x8_2 : Int).toNat + y492.length ≤ x7_2.length := (by have h_ := KY21.out; have h2_ := KL21.out; omega)
            refine Kd.R_copyin_step 0 (w0 := w) w.heap.size (by rfl) (.tmp 41) (.tmp 44) 22 22 5 rfl Tryd.underlying22 (by kernel_rfl) (n := x7_2.length) (c := co13) (k := (x8_2 : Int).toNat) (A0 := Ao13) (xs := x7_2) (ys := y496) rfl rfl ?hA (rU HO_7.out) ?aR hk_ bl bz ?_
            (case hA => exact KA21.out)
            (case aR => repeat (first | exact (by repeat (first | (with_reducible exact HR499.out) | (with_reducible refine Kd.C_alloc ?_ _) | (with_reducible refine Kd.C_drewN ?_ _) | (with_reducible refine Kd.C_drew ?_) | exact HR499.out)) | (with_reducible refine Kd.C_alloc ?_ _) | (with_reducible refine Kd.C_drewN ?_ _) | (with_reducible refine Kd.C_drew ?_)))
            intro w23 ho hb hg
            clear hk_
            rw [← Ny500.out] at ho
            have n_ := aC ho (aE hb)
            clear HO_7 HB
            obtain ⟨HO_7, HB⟩ := n_
            clear ho hb hg
            refine hK.out _ _ trivial (fun hHeld => ?_)
            clear hK K
            refine nm (some 45) ?_
            refine pu 8 46 (bv 10 511) HT_ rfl rfl ?_
            refine pu 9 8 (bv 10 1023) HT_ rfl rfl ?_
            refine done_ (done_of HT_.out (by kernel_rfl)) ?_
            try go_wp2
            (try simp only [← hl7_2])
            go_roundg k2
            case measure => have := HJ4.out; have := HK2.out; omega
            case rel => exact ⟨(y500), (wrap64 (x8_2 + ((min y496.length y492.length : Nat) : Int))), rq, H', ⟨by have := HJ4.out; have := HK2.out; omega⟩, ⟨by (try simp only [hl7_2]); (with_reducible repeat (first | apply Kd.R_alloc | apply Kd.R_drewN | apply Kd.R_drew)); exact HO_7.out⟩, ⟨bl⟩⟩
           ·rw [if_neg c17] at H
            exact absurd H (by simp)
          ·rw [if_neg c16] at H
           exact absurd H (by simp)
         ·rw [if_neg c15] at H
          have c15b0 := decide_eq_false c15
          (try (have c15b0_hl7_2 := c15b0; simp only [hl7_2] at c15b0_hl7_2))
          clear c15
          obtain rfl := Option.some.inj H
          go_wp2
          go_ret
          exact ⟨_, by first | rfl | (simp [errW_none, errW_some] <;> rfl) | (simp only [← hji8]; first | rfl | (simp [errW_none, errW_some] <;> rfl)) | (simp [*, errW_none, errW_some] <;> rfl), rU HO_7.out, bl⟩
      ·rw [if_neg c10] at H
       exact absurd H (by simp)
     ·rw [if_neg c9] at H
      exact absurd H (by simp)
end Go.Proofs.YtidgpjcgoocpeaaDoor.PTopRuns
