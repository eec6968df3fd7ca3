-- Written by a program of this session (wip/tools/myprint.py) over the kit's print. Not trusted: Lean checks it.
import Derived.Test.YtmggeebpbacoiaaPLetterOnesx0
import Derived.Test.YtmggeebpbacoiaaPLetterOnesx2
import Derived.Test.YtmggeebpbacoiaaPLetterOnesx5
namespace Go.Proofs.Ytmggeebpbacoiaa.PLetterOnes
open Go.RowKit Go.Proofs.YtmggeebpbacoiaaW.PrintWords Go.Proofs.YtmggeebpbacoiaaW.PrintLast Go.Proofs.YtmggeebpbacoiaaW.PrintMore
attribute [local go_sem] max2_int min2_int max_two min_two max_three min_three max_four min_four   -- for this text's walks alone
set_option linter.unusedVariables false
set_option linter.unusedSimpArgs false

/-! ### letter_reader_one_b: function 26 -/
def letter_reader_one_b.l0 : Nat → Int → Int → Int → List (S45) → Int → Int → List (S45) → List Int → Int → Int → Int → List Int → Option (Int × Int)
 | 0, _, _, _, _, _, _, _, _, _, _, _, _ => none
 | k + 1, x6, x7, x8, x17, x18, x19, x180000, x180001, x180002, x181000, x181001, x181002 => if x19 < x18 then (if 0 ≤ x19 then (if x19 < (x17.length : Int) then (if x19 < (x180001.length : Int) then ((letter_distance.f k ((rd_T45 x17 x19).f0.f0) ((rd_T45 x17 x19).f0.f1) ((rd_T45 x17 x19).f0.f2) x181000 x181001 x181002 (rd x180001 x19) x6).bind fun t185 => (if x19 = 0 then (letter_reader_one_b.l0 k x6 ((rd_T45 x17 x19).f1) t185 x17 x18 (wrap64 (x19 + 1)) x180000 x180001 x180002 x181000 x181001 x181002) else (if t185 < x8 then (letter_reader_one_b.l0 k x6 ((rd_T45 x17 x19).f1) t185 x17 x18 (wrap64 (x19 + 1)) x180000 x180001 x180002 x181000 x181001 x181002) else (letter_reader_one_b.l0 k x6 x7 x8 x17 x18 (wrap64 (x19 + 1)) x180000 x180001 x180002 x181000 x181001 x181002)))) else (none)) else (none)) else (none)) else (if x8 > x180002 then (some (63, x8)) else (some (x7, x8)))
def letter_reader_one_b.f (k : Nat) (l0_0 : List (S45)) (l0_1 : List Int) (a0_2 : Int) (a1_0 : Int) (a1_1 : Int) (l1_2 : List Int) : Option (Int × Int) := (letter_black.f k a1_0 a1_1 l1_2).bind fun t181 => (letter_reader_one_b.l0 k t181 63 0 l0_0 (l0_0.length : Int) 0 l0_0 l0_1 a0_2 a1_0 a1_1 l1_2)
theorem letter_reader_one_b.mono_l : ∀ k, (∀ y0 y1 y2 y3 y4 y5 y6 y7 y8 y9 y10 y11, LeO (letter_reader_one_b.l0 k y0 y1 y2 y3 y4 y5 y6 y7 y8 y9 y10 y11) (letter_reader_one_b.l0 (k + 1) y0 y1 y2 y3 y4 y5 y6 y7 y8 y9 y10 y11))
 | 0 => fun _ _ _ _ _ _ _ _ _ _ _ _ r h => by simp [letter_reader_one_b.l0] at h
 | k + 1 => by
  have ih0 := letter_reader_one_b.mono_l k
  ·intro y0 y1 y2 y3 y4 y5 y6 y7 y8 y9 y10 y11
   unfold letter_reader_one_b.l0
   repeat' first
   | (with_reducible exact ih0 _ _ _ _ _ _ _ _ _ _ _ _)
   | (with_reducible exact letter_black.mono _ _ _ _)
   | (with_reducible exact letter_distance.mono _ _ _ _ _ _ _ _ _)
   | (with_reducible exact LeO.refl _)
   | (with_reducible exact LeO.none _)
   | (with_reducible refine LeO.ite ?_ ?_)
   | (with_reducible refine LeO.bind ?_ (fun _ => ?_))
   | exact ih0 _ _ _ _ _ _ _ _ _ _ _ _
   | exact letter_black.mono _ _ _ _
   | exact letter_distance.mono _ _ _ _ _ _ _ _ _
   | exact LeO.none _
   | refine LeO.ite ?_ ?_
   | refine LeO.bind ?_ (fun _ => ?_)
theorem letter_reader_one_b.mono : ∀ a0 a1 a2 a3 a4 a5 k, LeO (letter_reader_one_b.f k a0 a1 a2 a3 a4 a5) (letter_reader_one_b.f (k + 1) a0 a1 a2 a3 a4 a5) := by
 intro a0 a1 a2 a3 a4 a5 k
 have ih0 := letter_reader_one_b.mono_l k
 unfold letter_reader_one_b.f
 repeat' first
   | (with_reducible exact ih0 _ _ _ _ _ _ _ _ _ _ _ _)
   | (with_reducible exact letter_black.mono _ _ _ _)
   | (with_reducible exact letter_distance.mono _ _ _ _ _ _ _ _ _)
   | (with_reducible exact LeO.refl _)
   | (with_reducible exact LeO.none _)
   | (with_reducible refine LeO.ite ?_ ?_)
   | (with_reducible refine LeO.bind ?_ (fun _ => ?_))
   | exact ih0 _ _ _ _ _ _ _ _ _ _ _ _
   | exact letter_black.mono _ _ _ _
   | exact letter_distance.mono _ _ _ _ _ _ _ _ _
   | exact LeO.none _
   | refine LeO.ite ?_ ?_
   | refine LeO.bind ?_ (fun _ => ?_)
def letter_reader_one_b.T6 : Bool × List (List Nat × List Nat) := (true, [([], []), ([0], [0]), ([], []), ([], []), ([3], [3]), ([4], [4]), ([5], [5]), ([], []), ([6, 7], [6, 7]), ([8], [8]), ([], []), ([1, 2, 9, 10], [1, 2, 9, 10]), ([11, 11, 0, 1, 2, 3, 4, 5, 6, 7, 8, 9, 10, 11], [11])])
def letter_reader_one_b.B6 : List Nat := [0, 1, 0, 0, 8, 24, 56, 0, 248, 504, 0, 2047, 4095]
theorem letter_reader_one_b.tab6 : rtab .any (opsOf Try.f26 6) = letter_reader_one_b.T6 := by kernel_rfl
theorem letter_reader_one_b.bits6 : waitsOk letter_reader_one_b.T6.2 letter_reader_one_b.B6 = true := by kernel_rfl
set_option maxHeartbeats 8000000 in
set_option maxRecDepth 100000 in
theorem letter_reader_one_b.calls (k : Nat) (b0_0 : Nat) (A0_0 : Option Addr) (c0_0 : Nat) (l0_0 : List (S45)) (A0_1 : Option Addr) (c0_1 : Nat) (l0_1 : List Int) (a0_2 : Int) (a1_0 : Int) (a1_1 : Int) (A1_2 : Option Addr) (c1_2 : Nat) (l1_2 : List Int) (r1 : Int) (r2 : Int) (w : World) (hr0_0 : Kd.C k45 w A0_0 l0_0.length l0_0) (hc0_0 : l0_0.length ≤ c0_0) (hr0_1 : Kd.C (Kd.int .i64) w A0_1 l0_1.length l0_1) (hc0_1 : l0_1.length ≤ c0_1) (hr1_2 : Kd.C (Kd.int .u8) w A1_2 l1_2.length l1_2) (hc1_2 : l1_2.length ≤ c1_2) (hbx0_0 : w.heap[b0_0]? = some (.cells #[.slice A0_0 l0_0.length c0_0, .slice A0_1 l0_1.length c0_1, .int .i64 a0_2] 67 (0, 0))) (h : letter_reader_one_b.f k l0_0 l0_1 a0_2 a1_0 a1_1 l1_2 = some (r1, r2)) :
  Calls Try.prog 26 #[.pointer (some ⟨b0_0, 0, none⟩), .agg #[.int .i64 a1_0, .int .i64 a1_1, .slice A1_2 l1_2.length c1_2]] w fun e w' => e = .returned (.tuple #[.int .u8 r1, .int .i64 r2]) ∧ Below w.heap.size w w' := by
 have hu34 := Try.underlying34
 have hu45 := Try.underlying45
 have HR0_0 := Aside0.mk hr0_0
 have HC0_0 := Aside0.mk hc0_0
 clear hr0_0 hc0_0
 have HR0_1 := Aside0.mk hr0_1
 have HC0_1 := Aside0.mk hc0_1
 clear hr0_1 hc0_1
 have HR1_2 := Aside0.mk hr1_2
 have HC1_2 := Aside0.mk hc1_2
 clear hr1_2 hc1_2
 have BK179 := Aside0.mk hbx0_0
 clear hbx0_0
 have HB := Aside0.mk (Below.refl w.heap.size w)
 have H : ((letter_black.f k a1_0 a1_1 l1_2).bind fun t181 => (letter_reader_one_b.l0 k t181 63 0 l0_0 (l0_0.length : Int) 0 l0_0 l0_1 a0_2 a1_0 a1_1 l1_2)) = some (r1, r2) := h
 clear h
 replace H := Option.bind_eq_some_iff.mp H
 obtain ⟨t181, A30, H⟩ := H
 replace H : (letter_reader_one_b.l0 k t181 63 0 l0_0 (l0_0.length : Int) 0 l0_0 l0_1 a0_2 a1_0 a1_1 l1_2) = some (r1, r2) := H
 have A3 := Aside0.mk A30
 clear A30
 have H' := Aside0.mk H
 clear H
 go_enter Try.func26, Try.ntmps26
 go_wp2_with (first | ((with_reducible refine gate_dst (N := 3) rfl ?_); refine box_event ?hg (N := 3) ?hd (cs := #[.int .i64 a1_0, .int .i64 a1_1, .slice A1_2 l1_2.length c1_2]) (t := 34) ?hr ?_; (case hd => rfl); (case hg => rfl); (case hr => first | (go_simp; done) | (go_simp; rfl)); intro gb180 hg w4 hbox hb; have n0_ := Aside0.mk (blk_below (bU BK179.out) hb); have n1_ := Aside0.mk (below_step (by repeat (first | (with_reducible first | exact HB.out | apply below_alloc | apply pw_below_drewN | apply below_drew1 | refine below_set ?_ GE179.out) | exact HB.out)) hb); have n2_ := Aside0.mk (hbox); have n3_ := Aside0.mk ((by rw [hg]; exact (below_size (by repeat (first | (with_reducible first | exact HB.out | apply below_alloc | apply pw_below_drewN | apply below_drew1 | refine below_set ?_ GE179.out) | exact HB.out))) : w.heap.size ≤ gb180)); have n4_ := Aside0.mk ((by rw [hg]; exact (below_size (by repeat (first | (with_reducible first | exact HB.out | apply below_alloc | apply pw_below_drewN | apply below_drew1 | refine below_set ?_ GE179.out) | exact HB.out))) : w.heap.size ≤ gb180)); have n5_ := Aside0.mk ((by rw [hg]; exact Nat.ne_of_lt (blk_lt (bU BK179.out)) : b0_0 ≠ gb180)); have n6_ := Aside0.mk ((by rw [hg]; exact Nat.ne_of_gt (blk_lt (bU BK179.out)) : gb180 ≠ b0_0)); clear BK179; clear HB; have BK179 := n0_; have HB := n1_; have BK180 := n2_; have GW180 := n3_; have GE180 := n4_; have NB179_180 := n5_; have NB180_179 := n6_; clear n0_ n1_ n2_ n3_ n4_ n5_ n6_; clear hb hbox hg; have hnb5 := NB180_179.out; have hnc5 := NB179_180.out; have hcz6_0 : w4.cell? ⟨gb180, 0, none⟩ = some (.int .i64 a1_0) := (blk_cell BK180.out 0).trans rfl; have hcz6_1 : w4.cell? ⟨gb180, 1, none⟩ = some (.int .i64 a1_1) := (blk_cell BK180.out 1).trans rfl; have hcz6_2 : w4.cell? ⟨gb180, 2, none⟩ = some (.slice A1_2 l1_2.length c1_2) := (blk_cell BK180.out 2).trans rfl; have hfz6_0 := blk_frozen BK180.out 0; have hfz6_1 := blk_frozen BK180.out 1; have hfz6_2 := blk_frozen BK180.out 2) | ((with_reducible refine gate_callee (f := 21) rfl ?_); refine goesL_ (some 13) rfl rfl Try.func21 (by kernel_rfl) rfl #[.agg #[.int .i64 a1_0, .int .i64 a1_1, .slice A1_2 l1_2.length c1_2]] rfl (by (try simp only [List.map_toArray, List.map_cons, List.map_nil]); first | done | rfl | (simp only [List.length_drop, List.length_take]; rfl)) ?_; (with_reducible refine (letter_black.calls k a1_0 a1_1 _ _ l1_2 t181 _ ?side1 ?side2 A3.out).mono ?_); (case side1 => repeat (first | exact (Kd.C_below HR1_2.out HB.out) | (with_reducible refine Kd.C_alloc ?_ _) | (with_reducible refine Kd.C_drewN ?_ _) | (with_reducible refine Kd.C_drew ?_))); (case side2 => exact HC1_2.out); rintro e w7 ⟨rfl, hb⟩; refine ⟨_, rfl, ?_⟩; have n0_ := Aside0.mk (blk_below (bU BK179.out) hb); have n1_ := Aside0.mk (blk_below (bU BK180.out) hb); have n2_ := Aside0.mk (below_step (by repeat (first | (with_reducible first | exact HB.out | apply below_alloc | apply pw_below_drewN | apply below_drew1 | refine below_set ?_ GE179.out | refine below_set ?_ GE180.out) | exact HB.out)) hb); clear BK179; clear BK180; clear HB; have BK179 := n0_; have BK180 := n1_; have HB := n2_; clear n0_ n1_ n2_; (try clear hb); (try clear hb2); (try clear hk); (try clear hi); have hcz8_0 : w7.cell? ⟨b0_0, 0, none⟩ = some (.slice A0_0 l0_0.length c0_0) := (blk_cell BK179.out 0).trans rfl; have hcz8_1 : w7.cell? ⟨b0_0, 1, none⟩ = some (.slice A0_1 l0_1.length c0_1) := (blk_cell BK179.out 1).trans rfl; have hcz8_2 : w7.cell? ⟨b0_0, 2, none⟩ = some (.int .i64 a0_2) := (blk_cell BK179.out 2).trans rfl; have hfz8_0 := blk_frozen BK179.out 0; have hfz8_1 := blk_frozen BK179.out 1; have hfz8_2 := blk_frozen BK179.out 2))
 go_loopg [7, 8, 19] k (fun kq v7 v8 v19 w' => ∃ (x7_1 : Int) (x8_1 : Int) (x19_1 : Int), v7 = .int .u8 x7_1 ∧ v8 = .int .i64 x8_1 ∧ v19 = .int .i64 x19_1 ∧ Aside0 (letter_reader_one_b.l0 kq t181 x7_1 x8_1 l0_0 (l0_0.length : Int) x19_1 l0_0 l0_1 a0_2 a1_0 a1_1 l1_2 = some (r1, r2)) ∧ Aside0 (kq ≤ k) ∧ Aside0 (w'.heap[b0_0]? = some (.cells #[(.slice A0_0 l0_0.length c0_0), (.slice A0_1 l0_1.length c0_1), .int .i64 a0_2] 67 (0, 0))) ∧ Aside0 (w'.heap[gb180]? = some (.cells #[.int .i64 a1_0, .int .i64 a1_1, (.slice A1_2 l1_2.length c1_2)] 34 (0, 0))) ∧ Aside0 (Below w.heap.size w w'))
 case atStart => exact ⟨(63), (0), (0), (by first | rfl | (simp; done) | (simp [*]; done)), (by first | rfl | (simp; done) | (simp [*]; done)), (by first | rfl | (simp; done) | (simp [*]; done)), H', ⟨Nat.le_refl _⟩, ⟨by (with_reducible repeat (first | refine blk_drewN ?_ _ | refine blk_drew ?_ | refine blk_alloc ?_ _)); exact BK179.out⟩, ⟨by (with_reducible repeat (first | refine blk_drewN ?_ _ | refine blk_drew ?_ | refine blk_alloc ?_ _)); exact BK180.out⟩, ⟨by repeat (first | (with_reducible first | exact HB.out | apply below_alloc | apply pw_below_drewN | apply below_drew1 | refine below_set ?_ GE179.out | refine below_set ?_ GE180.out) | exact HB.out)⟩⟩
 case round =>
  clear H'
  try clear c1
  try clear c2
  try clear p2
  try clear c5
  try clear hcz6_0
  try clear hcz6_1
  try clear hcz6_2
  try clear hcz8_0
  try clear hcz8_1
  try clear hcz8_2
  try clear hfz6_0
  try clear hfz6_1
  try clear hfz6_2
  try clear hfz8_0
  try clear hfz8_1
  try clear hfz8_2
  obtain ⟨x7_1, x8_1, x19_1, rfl, rfl, rfl, HA, HK1, BK179, BK180, HB⟩ := hrel
  cases gk with
  | zero => exact absurd HA.out (by simp [letter_reader_one_b.l0])
  | succ k1 =>
   have H := HA.out
   clear HA
   simp only [letter_reader_one_b.l0] at H
   by_cases c9 : x19_1 < (l0_0.length : Int)
   ·rw [if_pos c9] at H
    have c9b0 : decide (x19_1 < (l0_0.length : Int)) = true := decide_eq_true c9
    clear c9
    by_cases c10 : 0 ≤ x19_1
    ·rw [if_pos c10] at H
     have c10b0 : decide (0 ≤ x19_1) = true := decide_eq_true c10
     clear c10
     by_cases c11 : x19_1 < (l0_0.length : Int)
     ·rw [if_pos c11] at H
      have c11b0 : decide (x19_1 < (l0_0.length : Int)) = true := decide_eq_true c11
      clear c11
      by_cases c12 : x19_1 < (l0_1.length : Int)
      ·rw [if_pos c12] at H
       have c12b0 : decide (x19_1 < (l0_1.length : Int)) = true := decide_eq_true c12
       clear c12
       replace H := Option.bind_eq_some_iff.mp H
       obtain ⟨t185, A130, H⟩ := H
       replace H : (if x19_1 = 0 then (letter_reader_one_b.l0 k1 t181 ((rd_T45 l0_0 x19_1).f1) t185 l0_0 (l0_0.length : Int) (wrap64 (x19_1 + 1)) l0_0 l0_1 a0_2 a1_0 a1_1 l1_2) else (if t185 < x8_1 then (letter_reader_one_b.l0 k1 t181 ((rd_T45 l0_0 x19_1).f1) t185 l0_0 (l0_0.length : Int) (wrap64 (x19_1 + 1)) l0_0 l0_1 a0_2 a1_0 a1_1 l1_2) else (letter_reader_one_b.l0 k1 t181 x7_1 x8_1 l0_0 (l0_0.length : Int) (wrap64 (x19_1 + 1)) l0_0 l0_1 a0_2 a1_0 a1_1 l1_2))) = some (r1, r2) := H
       have A13 := Aside0.mk A130
       clear A130
       by_cases c14 : x19_1 = 0
       ·rw [if_pos c14] at H
        have c14b0 : (x19_1 == 0) = true := beq_iff_eq.mpr c14
        have c14b1 : (x19_1 != 0) = false := bne_eq_false_iff_eq.mpr c14
        clear c14
        have H' := Aside0.mk H
        clear H
        have p182 : 0 ≤ (x19_1 : Int) := of_decide_eq_true (by first | (with_reducible assumption) | assumption)
        have q182 : x19_1 < (l0_0.length : Int) := of_decide_eq_true (by first | (with_reducible assumption) | assumption)
        obtain ⟨ad182, A182_2, c182_2, e182, hx182_0, hx182_1, hx182_2, hx182_3, hl182_2, hi182_2⟩ := at_T45 HR0_0.out x19_1 p182 q182
        cases e182
        replace hx182_0 := (HB.out.cell (World.block_lt_of_cell? w _ hx182_0)).trans hx182_0
        replace hx182_1 := (HB.out.cell (World.block_lt_of_cell? w _ hx182_1)).trans hx182_1
        replace hx182_2 := (HB.out.cell (World.block_lt_of_cell? w _ hx182_2)).trans hx182_2
        replace hx182_3 := (HB.out.cell (World.block_lt_of_cell? w _ hx182_3)).trans hx182_3
        have HR182_2 := Aside0.mk hi182_2
        have HC182_2 := Aside0.mk hl182_2
        clear hi182_2 hl182_2
        replace p182 := eq_true p182
        replace q182 := eq_true q182
        try go_wp2_with (first | ((with_reducible refine gate_dst (N := 10) rfl ?_); refine box_event ?hg (N := 10) ?hd (cs := #[.int .i64 0, .int .i64 0, .slice none 0 0, .int .u8 0]) (t := 45) ?hr ?_; (case hd => rfl); (case hg => rfl); (case hr => first | (go_simp; done) | (go_simp; rfl)); intro gb183 hg w15 hbox hb; have n0_ := Aside0.mk (blk_below (bU BK179.out) hb); have n1_ := Aside0.mk (blk_below (bU BK180.out) hb); have n2_ := Aside0.mk (below_step (by repeat (first | (with_reducible first | exact HB.out | apply below_alloc | apply pw_below_drewN | apply below_drew1 | refine below_set ?_ GE179.out | refine below_set ?_ GE180.out) | exact HB.out)) hb); have n3_ := Aside0.mk (hbox); have n4_ := Aside0.mk ((by rw [hg]; exact (below_size (by repeat (first | (with_reducible first | exact HB.out | apply below_alloc | apply pw_below_drewN | apply below_drew1 | refine below_set ?_ GE179.out | refine below_set ?_ GE180.out) | exact HB.out))) : w.heap.size ≤ gb183)); have n5_ := Aside0.mk ((by rw [hg]; exact (below_size (by repeat (first | (with_reducible first | exact HB.out | apply below_alloc | apply pw_below_drewN | apply below_drew1 | refine below_set ?_ GE179.out | refine below_set ?_ GE180.out) | exact HB.out))) : w.heap.size ≤ gb183)); have n6_ := Aside0.mk ((by rw [hg]; exact Nat.ne_of_lt (blk_lt (bU BK179.out)) : b0_0 ≠ gb183)); have n7_ := Aside0.mk ((by rw [hg]; exact Nat.ne_of_gt (blk_lt (bU BK179.out)) : gb183 ≠ b0_0)); have n8_ := Aside0.mk ((by rw [hg]; exact Nat.ne_of_lt (blk_lt (bU BK180.out)) : gb180 ≠ gb183)); have n9_ := Aside0.mk ((by rw [hg]; exact Nat.ne_of_gt (blk_lt (bU BK180.out)) : gb183 ≠ gb180)); clear BK179; clear BK180; clear HB; have BK179 := n0_; have BK180 := n1_; have HB := n2_; have BK183 := n3_; have GW183 := n4_; have GE183 := n5_; have NB179_183 := n6_; have NB183_179 := n7_; have NB180_183 := n8_; have NB183_180 := n9_; clear n0_ n1_ n2_ n3_ n4_ n5_ n6_ n7_ n8_ n9_; clear hb hbox hg; have hnb16 := NB183_179.out; have hnc16 := NB179_183.out; have hnb17 := NB183_180.out; have hnc17 := NB180_183.out; have hcz18_0 : w15.cell? ⟨gb183, 0, none⟩ = some (.int .i64 0) := (blk_cell BK183.out 0).trans rfl; have hcz18_1 : w15.cell? ⟨gb183, 1, none⟩ = some (.int .i64 0) := (blk_cell BK183.out 1).trans rfl; have hcz18_2 : w15.cell? ⟨gb183, 2, none⟩ = some (.slice none 0 0) := (blk_cell BK183.out 2).trans rfl; have hcz18_3 : w15.cell? ⟨gb183, 3, none⟩ = some (.int .u8 0) := (blk_cell BK183.out 3).trans rfl; have hfz18_0 := blk_frozen BK183.out 0; have hfz18_1 := blk_frozen BK183.out 1; have hfz18_2 := blk_frozen BK183.out 2; have hfz18_3 := blk_frozen BK183.out 3))
        have n0_ : Aside0 (((((w15.setCell ⟨gb183, 0, none⟩ (.int .i64 ((rd_T45 l0_0 x19_1).f0.f0))).setCell ⟨gb183, 1, none⟩ (.int .i64 ((rd_T45 l0_0 x19_1).f0.f1))).setCell ⟨gb183, 2, none⟩ (.slice A182_2 ((rd_T45 l0_0 x19_1).f0.f2).length c182_2)).setCell ⟨gb183, 3, none⟩ (.int .u8 ((rd_T45 l0_0 x19_1).f1))).heap[b0_0]? = some (.cells #[.slice (some ad182) l0_0.length c0_0, .slice A0_1 l0_1.length c0_1, .int .i64 a0_2] 67 (0, 0))) := ⟨by (with_reducible repeat (first | refine blk_drewN ?_ _ | refine blk_drew ?_ | refine blk_alloc ?_ _)); refine blk_far ?_ NB179_183.out _; (with_reducible repeat (first | refine blk_drewN ?_ _ | refine blk_drew ?_ | refine blk_alloc ?_ _)); refine blk_far ?_ NB179_183.out _; (with_reducible repeat (first | refine blk_drewN ?_ _ | refine blk_drew ?_ | refine blk_alloc ?_ _)); refine blk_far ?_ NB179_183.out _; (with_reducible repeat (first | refine blk_drewN ?_ _ | refine blk_drew ?_ | refine blk_alloc ?_ _)); refine blk_far ?_ NB179_183.out _; (with_reducible repeat (first | refine blk_drewN ?_ _ | refine blk_drew ?_ | refine blk_alloc ?_ _)); exact BK179.out⟩
        have n1_ : Aside0 (((((w15.setCell ⟨gb183, 0, none⟩ (.int .i64 ((rd_T45 l0_0 x19_1).f0.f0))).setCell ⟨gb183, 1, none⟩ (.int .i64 ((rd_T45 l0_0 x19_1).f0.f1))).setCell ⟨gb183, 2, none⟩ (.slice A182_2 ((rd_T45 l0_0 x19_1).f0.f2).length c182_2)).setCell ⟨gb183, 3, none⟩ (.int .u8 ((rd_T45 l0_0 x19_1).f1))).heap[gb180]? = some (.cells #[.int .i64 a1_0, .int .i64 a1_1, .slice A1_2 l1_2.length c1_2] 34 (0, 0))) := ⟨by (with_reducible repeat (first | refine blk_drewN ?_ _ | refine blk_drew ?_ | refine blk_alloc ?_ _)); refine blk_far ?_ NB180_183.out _; (with_reducible repeat (first | refine blk_drewN ?_ _ | refine blk_drew ?_ | refine blk_alloc ?_ _)); refine blk_far ?_ NB180_183.out _; (with_reducible repeat (first | refine blk_drewN ?_ _ | refine blk_drew ?_ | refine blk_alloc ?_ _)); refine blk_far ?_ NB180_183.out _; (with_reducible repeat (first | refine blk_drewN ?_ _ | refine blk_drew ?_ | refine blk_alloc ?_ _)); refine blk_far ?_ NB180_183.out _; (with_reducible repeat (first | refine blk_drewN ?_ _ | refine blk_drew ?_ | refine blk_alloc ?_ _)); exact BK180.out⟩
        have n2_ : Aside0 (((((w15.setCell ⟨gb183, 0, none⟩ (.int .i64 ((rd_T45 l0_0 x19_1).f0.f0))).setCell ⟨gb183, 1, none⟩ (.int .i64 ((rd_T45 l0_0 x19_1).f0.f1))).setCell ⟨gb183, 2, none⟩ (.slice A182_2 ((rd_T45 l0_0 x19_1).f0.f2).length c182_2)).setCell ⟨gb183, 3, none⟩ (.int .u8 ((rd_T45 l0_0 x19_1).f1))).heap[gb183]? = some (.cells #[.int .i64 ((rd_T45 l0_0 x19_1).f0.f0), .int .i64 ((rd_T45 l0_0 x19_1).f0.f1), .slice A182_2 ((rd_T45 l0_0 x19_1).f0.f2).length c182_2, .int .u8 ((rd_T45 l0_0 x19_1).f1)] 45 (0, 0))) := ⟨by (with_reducible repeat (first | refine blk_drewN ?_ _ | refine blk_drew ?_ | refine blk_alloc ?_ _)); refine blk_put (cs := #[.int .i64 ((rd_T45 l0_0 x19_1).f0.f0), .int .i64 ((rd_T45 l0_0 x19_1).f0.f1), .slice A182_2 ((rd_T45 l0_0 x19_1).f0.f2).length c182_2, .int .u8 0]) ?_ 3 _ rfl; (with_reducible repeat (first | refine blk_drewN ?_ _ | refine blk_drew ?_ | refine blk_alloc ?_ _)); refine blk_put (cs := #[.int .i64 ((rd_T45 l0_0 x19_1).f0.f0), .int .i64 ((rd_T45 l0_0 x19_1).f0.f1), .slice none 0 0, .int .u8 0]) ?_ 2 _ rfl; (with_reducible repeat (first | refine blk_drewN ?_ _ | refine blk_drew ?_ | refine blk_alloc ?_ _)); refine blk_put (cs := #[.int .i64 ((rd_T45 l0_0 x19_1).f0.f0), .int .i64 0, .slice none 0 0, .int .u8 0]) ?_ 1 _ rfl; (with_reducible repeat (first | refine blk_drewN ?_ _ | refine blk_drew ?_ | refine blk_alloc ?_ _)); refine blk_put (cs := #[.int .i64 0, .int .i64 0, .slice none 0 0, .int .u8 0]) ?_ 0 _ rfl; (with_reducible repeat (first | refine blk_drewN ?_ _ | refine blk_drew ?_ | refine blk_alloc ?_ _)); exact BK183.out⟩
        have n3_ : Aside0 (Below w.heap.size w ((((w15.setCell ⟨gb183, 0, none⟩ (.int .i64 ((rd_T45 l0_0 x19_1).f0.f0))).setCell ⟨gb183, 1, none⟩ (.int .i64 ((rd_T45 l0_0 x19_1).f0.f1))).setCell ⟨gb183, 2, none⟩ (.slice A182_2 ((rd_T45 l0_0 x19_1).f0.f2).length c182_2)).setCell ⟨gb183, 3, none⟩ (.int .u8 ((rd_T45 l0_0 x19_1).f1)))) := ⟨by repeat (first | (with_reducible first | exact HB.out | apply below_alloc | apply pw_below_drewN | apply below_drew1 | refine below_set ?_ GE179.out | refine below_set ?_ GE180.out | refine below_set ?_ GE183.out) | exact HB.out)⟩
        (try clear BK179)
        (try clear BK180)
        (try clear BK183)
        (try clear HB)
        generalize ((((w15.setCell ⟨gb183, 0, none⟩ (.int .i64 ((rd_T45 l0_0 x19_1).f0.f0))).setCell ⟨gb183, 1, none⟩ (.int .i64 ((rd_T45 l0_0 x19_1).f0.f1))).setCell ⟨gb183, 2, none⟩ (.slice A182_2 ((rd_T45 l0_0 x19_1).f0.f2).length c182_2)).setCell ⟨gb183, 3, none⟩ (.int .u8 ((rd_T45 l0_0 x19_1).f1))) = w19 at n0_ n1_ n2_ n3_ ⊢
        have BK179 := n0_
        have BK180 := n1_
        have BK183 := n2_
        have HB := n3_
        clear n0_ n1_ n2_ n3_
        have n0_ := Aside0.mk (blk_drew BK179.out)
        have n1_ := Aside0.mk (blk_drew BK180.out)
        have n2_ := Aside0.mk (blk_drew BK183.out)
        have n3_ := Aside0.mk (below_drew1 HB.out)
        clear BK179
        clear BK180
        clear BK183
        clear HB
        have BK179 := n0_
        have BK180 := n1_
        have BK183 := n2_
        have HB := n3_
        clear n0_ n1_ n2_ n3_
        have p184 : 0 ≤ (x19_1 : Int) := of_decide_eq_true (by first | (with_reducible assumption) | assumption)
        have q184 : x19_1 < (l0_1.length : Int) := of_decide_eq_true (by first | (with_reducible assumption) | assumption)
        obtain ⟨ad184, e184, hx184_0⟩ := Kd.at_int HR0_1.out x19_1 p184 q184
        have hw184_0 := hx184_0
        cases e184
        replace hx184_0 := (HB.out.cell (World.block_lt_of_cell? w _ hx184_0)).trans hx184_0
        replace p184 := eq_true p184
        replace q184 := eq_true q184
        refine start_ (n := 13) (S := fun w' => w'.cell? ⟨gb183, 0, none⟩ = some (.int .i64 ((rd_T45 l0_0 x19_1).f0.f0)) ∧ w'.cell? ⟨gb183, 1, none⟩ = some (.int .i64 ((rd_T45 l0_0 x19_1).f0.f1)) ∧ w'.cell? ⟨gb183, 2, none⟩ = some (.slice A182_2 ((rd_T45 l0_0 x19_1).f0.f2).length c182_2) ∧ w'.cell? ⟨gb183, 3, none⟩ = some (.int .u8 ((rd_T45 l0_0 x19_1).f1)) ∧ w'.cell? ⟨gb180, 0, none⟩ = some (.int .i64 a1_0) ∧ w'.cell? ⟨gb180, 1, none⟩ = some (.int .i64 a1_1) ∧ w'.cell? ⟨gb180, 2, none⟩ = some (.slice A1_2 l1_2.length c1_2) ∧ w'.cell? ⟨b0_0, 0, none⟩ = some (.slice (some ad182) l0_0.length c0_0) ∧ w'.cell? ⟨b0_0, 1, none⟩ = some (.slice (some ad184) l0_1.length c0_1) ∧ w'.cell? ⟨b0_0, 2, none⟩ = some (.int .i64 a0_2) ∧ w'.cell? (ad184.add (x19_1).toNat) = some (.int .i64 (rd l0_1 x19_1))) (ds := []) #[false, false, false, false, false, false, false, false, false, false, false, false, false] (by kernel_rfl) rfl rfl ⟨(blk_cell BK183.out 0).trans rfl, (blk_cell BK183.out 1).trans rfl, (blk_cell BK183.out 2).trans rfl, (blk_cell BK183.out 3).trans rfl, (blk_cell BK180.out 0).trans rfl, (blk_cell BK180.out 1).trans rfl, (blk_cell BK180.out 2).trans rfl, (blk_cell BK179.out 0).trans rfl, (blk_cell BK179.out 1).trans rfl, (blk_cell BK179.out 2).trans rfl, ((HB.out.cell (World.block_lt_of_cell? w _ hw184_0)).trans hw184_0)⟩ (fun hHeld => ?_); refine with_tabW letter_reader_one_b.tab6 letter_reader_one_b.bits6 (fun HT_ HW_ => ?_)
        generalize w19.drew = w20 at BK179 BK180 BK183 HB hx184_0 hHeld ⊢
        refine pure_ (i := 0) (N := some 24) (v := ?_) (a' := ?_) (bv 13 1) rfl rfl (any_of HT_.out (by kernel_rfl)) (fun _ _ _ h => h) (Or.inl ⟨by rfl, ?_⟩) ?_ ?_
        rotate_left
        ·intro w'
         go_simp
         with_reducible rfl
        rotate_left
        ·simp only [Act.put, List.setIfInBounds_toArray, List.set_cons_zero, List.set_cons_succ, i64_w, i32_w]
         rfl
        refine pure_ (i := 3) (N := some 27) (v := ?_) (a' := ?_) (bv 13 9) rfl rfl (any_of HT_.out (by kernel_rfl)) (fun _ _ _ h => h) (Or.inl ⟨by rfl, ?_⟩) ?_ ?_
        rotate_left
        ·intro w'
         go_simp
         with_reducible rfl
        rotate_left
        ·simp only [Act.put, List.setIfInBounds_toArray, List.set_cons_zero, List.set_cons_succ, i64_w, i32_w]
         rfl
        refine pure_ (i := 4) (N := some 28) (v := ?_) (a' := ?_) (bv 13 25) rfl rfl (any_of HT_.out (by kernel_rfl)) (fun _ _ _ h => h) (Or.inl ⟨by rfl, ?_⟩) ?_ ?_
        rotate_left
        ·intro w'
         go_simp
         with_reducible rfl
        rotate_left
        ·simp only [Act.put, List.setIfInBounds_toArray, List.set_cons_zero, List.set_cons_succ, i64_w, i32_w]
         rfl
        refine pure_ (i := 5) (N := some 29) (v := ?_) (a' := ?_) (bv 13 57) rfl rfl (any_of HT_.out (by kernel_rfl)) (fun _ _ _ h => h) (Or.inl ⟨by rfl, ?_⟩) ?_ ?_
        rotate_left
        ·intro w'
         go_simp
         with_reducible rfl
        rotate_left
        ·simp only [Act.put, List.setIfInBounds_toArray, List.set_cons_zero, List.set_cons_succ, i64_w, i32_w]
         rfl
        refine pure_ (i := 7) (N := some 31) (v := ?_) (a' := ?_) (bv 13 185) rfl rfl (any_of HT_.out (by kernel_rfl)) (fun _ _ _ h => h) (Or.inl ⟨by rfl, ?_⟩) ?_ ?_
        rotate_left
        ·intro w'
         go_simp
         with_reducible rfl
        rotate_left
        ·simp only [Act.put, List.setIfInBounds_toArray, List.set_cons_zero, List.set_cons_succ, i64_w, i32_w]
         rfl
        refine pure_ (i := 10) (N := some 34) (v := ?_) (a' := ?_) (bv 13 1209) rfl rfl (any_of HT_.out (by kernel_rfl)) (fun _ _ _ h => h) (Or.inl ⟨by rfl, ?_⟩) ?_ ?_
        rotate_left
        ·intro w'
         go_simp
         with_reducible rfl
        rotate_left
        ·simp only [Act.put, List.setIfInBounds_toArray, List.set_cons_zero, List.set_cons_succ, i64_w, i32_w]
         rfl
        refine take_ (i := 1) (N := some 25) (v := ?_) (a' := ?_) (bv 13 1211) rfl rfl (take_ofW HT_.out HW_.out (by kernel_rfl)) (fun _ _ _ h => h) (Or.inl ⟨by rfl, ?_⟩) hHeld ?_ ?_
        rotate_left
        ·rintro w' ⟨s0, s1, s2, s3, s4, s5, s6, s7, s8, s9, s10⟩
         go_simp
         with_reducible rfl
        rotate_left
        ·simp only [Act.put, List.setIfInBounds_toArray, List.set_cons_zero, List.set_cons_succ, i64_w, i32_w]
         rfl
        refine take_ (i := 2) (N := some 26) (v := ?_) (a' := ?_) (bv 13 1215) rfl rfl (take_ofW HT_.out HW_.out (by kernel_rfl)) (fun _ _ _ h => h) (Or.inl ⟨by rfl, ?_⟩) hHeld ?_ ?_
        rotate_left
        ·rintro w' ⟨s0, s1, s2, s3, s4, s5, s6, s7, s8, s9, s10⟩
         go_simp
         with_reducible rfl
        rotate_left
        ·simp only [Act.put, List.setIfInBounds_toArray, List.set_cons_zero, List.set_cons_succ, i64_w, i32_w]
         rfl
        refine take_ (i := 6) (N := some 30) (v := ?_) (a' := ?_) (bv 13 1279) rfl rfl (take_ofW HT_.out HW_.out (by kernel_rfl)) (fun _ _ _ h => h) (Or.inl ⟨by rfl, ?_⟩) hHeld ?_ ?_
        rotate_left
        ·rintro w' ⟨s0, s1, s2, s3, s4, s5, s6, s7, s8, s9, s10⟩
         go_simp
         with_reducible rfl
        rotate_left
        ·simp only [Act.put, List.setIfInBounds_toArray, List.set_cons_zero, List.set_cons_succ, i64_w, i32_w]
         rfl
        refine pure_ (i := 8) (N := some 32) (v := ?_) (a' := ?_) (bv 13 1535) rfl rfl (any_of HT_.out (by kernel_rfl)) (fun _ _ _ h => h) (Or.inl ⟨by rfl, ?_⟩) ?_ ?_
        rotate_left
        ·intro w'
         go_simp
         with_reducible rfl
        rotate_left
        ·simp only [Act.put, List.setIfInBounds_toArray, List.set_cons_zero, List.set_cons_succ, i64_w, i32_w]
         rfl
        refine take_ (i := 9) (N := some 33) (v := ?_) (a' := ?_) (bv 13 2047) rfl rfl (take_ofW HT_.out HW_.out (by kernel_rfl)) (fun _ _ _ h => h) (Or.inl ⟨by rfl, ?_⟩) hHeld ?_ ?_
        rotate_left
        ·rintro w' ⟨s0, s1, s2, s3, s4, s5, s6, s7, s8, s9, s10⟩
         go_simp
         with_reducible rfl
        rotate_left
        ·simp only [Act.put, List.setIfInBounds_toArray, List.set_cons_zero, List.set_cons_succ, i64_w, i32_w]
         rfl
        refine one_ (i := 11) (N := some 35) (bv 13 4095) rfl rfl (one_of HT_.out (by kernel_rfl)) (by decide) (fun K hK => ?_)
        refine goes_ Try.func20 (by kernel_rfl) rfl #[.agg #[.int .i64 ((rd_T45 l0_0 x19_1).f0.f0), .int .i64 ((rd_T45 l0_0 x19_1).f0.f1), .slice A182_2 ((rd_T45 l0_0 x19_1).f0.f2).length c182_2], .agg #[.int .i64 a1_0, .int .i64 a1_1, .slice A1_2 l1_2.length c1_2], .int .i64 (rd l0_1 x19_1), .int .i64 t181] (by rfl) rfl rfl (by (try simp only [List.map_toArray, List.map_cons, List.map_nil]); first | done | rfl | (simp only [List.length_drop, List.length_take]; rfl)) ?_
        with_reducible refine (letter_distance.calls k1 ((rd_T45 l0_0 x19_1).f0.f0) ((rd_T45 l0_0 x19_1).f0.f1) _ _ ((rd_T45 l0_0 x19_1).f0.f2) a1_0 a1_1 _ _ l1_2 (rd l0_1 x19_1) t181 t185 _ ?side1 ?side2 ?side3 ?side4 A13.out).mono ?_
        (case side1 => repeat (first | exact (Kd.C_below HR182_2.out HB.out) | (with_reducible refine Kd.C_alloc ?_ _) | (with_reducible refine Kd.C_drewN ?_ _) | (with_reducible refine Kd.C_drew ?_)))
        (case side2 => exact HC182_2.out)
        (case side3 => repeat (first | exact (Kd.C_below HR1_2.out HB.out) | (with_reducible refine Kd.C_alloc ?_ _) | (with_reducible refine Kd.C_drewN ?_ _) | (with_reducible refine Kd.C_drew ?_)))
        (case side4 => exact HC1_2.out)
        rintro e w21 ⟨rfl, hb⟩
        refine ⟨_, rfl, ?_⟩
        have n0_ := Aside0.mk (blk_below (bU BK179.out) hb)
        have n1_ := Aside0.mk (blk_below (bU BK180.out) hb)
        have n2_ := Aside0.mk (blk_below (g := gb183) (o := .cells #[.int .i64 ((rd_T45 l0_0 x19_1).f0.f0), .int .i64 ((rd_T45 l0_0 x19_1).f0.f1), .slice A182_2 ((rd_T45 l0_0 x19_1).f0.f2).length c182_2, .int .u8 ((rd_T45 l0_0 x19_1).f1)] 45 (0, 0)) (bU BK183.out) hb)
        have n3_ := Aside0.mk (below_step (by repeat (first | (with_reducible first | exact HB.out | apply below_alloc | apply pw_below_drewN | apply below_drew1 | refine below_set ?_ GE179.out | refine below_set ?_ GE180.out | refine below_set ?_ GE183.out) | exact HB.out)) hb)
        clear BK179
        clear BK180
        clear BK183
        clear HB
        have BK179 := n0_
        have BK180 := n1_
        have BK183 := n2_
        have HB := n3_
        clear n0_ n1_ n2_ n3_
        (try clear hb)
        (try clear hb2)
        (try clear hk)
        (try clear hi)
        refine hK.out _ _ ⟨(blk_cell BK183.out 0).trans rfl, (blk_cell BK183.out 1).trans rfl, (blk_cell BK183.out 2).trans rfl, (blk_cell BK183.out 3).trans rfl, (blk_cell BK180.out 0).trans rfl, (blk_cell BK180.out 1).trans rfl, (blk_cell BK180.out 2).trans rfl, (blk_cell BK179.out 0).trans rfl, (blk_cell BK179.out 1).trans rfl, (blk_cell BK179.out 2).trans rfl, ((HB.out.cell (World.block_lt_of_cell? w _ hw184_0)).trans hw184_0)⟩ (fun hHeld => ?_)
        clear hK K
        refine norm_ (a' := ?_) ?_ ?_
        rotate_left
        ·show Act.put _ (some 35) _ = _
         simp only [Act.put, List.setIfInBounds_toArray, List.set_cons_zero, List.set_cons_succ, i64_w, i32_w]
         rfl
        refine pure_ (i := 12) (N := some 11) (v := ?_) (a' := ?_) (bv 13 8191) rfl rfl (any_of HT_.out (by kernel_rfl)) (fun _ _ _ h => h) (Or.inl ⟨by rfl, ?_⟩) ?_ ?_
        rotate_left
        ·intro w'
         go_simp
         with_reducible rfl
        rotate_left
        ·simp only [Act.put, List.setIfInBounds_toArray, List.set_cons_zero, List.set_cons_succ, i64_w, i32_w]
         rfl
        refine done_ (done_of HT_.out (by kernel_rfl)) ?_
        have hcz22_0 : w21.cell? ⟨gb183, 0, none⟩ = some (.int .i64 ((rd_T45 l0_0 x19_1).f0.f0)) := (blk_cell BK183.out 0).trans rfl
        have hcz22_1 : w21.cell? ⟨gb183, 1, none⟩ = some (.int .i64 ((rd_T45 l0_0 x19_1).f0.f1)) := (blk_cell BK183.out 1).trans rfl
        have hcz22_2 : w21.cell? ⟨gb183, 2, none⟩ = some (.slice A182_2 ((rd_T45 l0_0 x19_1).f0.f2).length c182_2) := (blk_cell BK183.out 2).trans rfl
        have hcz22_3 : w21.cell? ⟨gb183, 3, none⟩ = some (.int .u8 ((rd_T45 l0_0 x19_1).f1)) := (blk_cell BK183.out 3).trans rfl
        have hfz22_0 := blk_frozen BK183.out 0
        have hfz22_1 := blk_frozen BK183.out 1
        have hfz22_2 := blk_frozen BK183.out 2
        have hfz22_3 := blk_frozen BK183.out 3
        try go_wp2
        go_roundg k1
        case measure => have := HK1.out; omega
        case rel => exact ⟨((rd_T45 l0_0 x19_1).f1), (t185), (wrap64 (x19_1 + 1)), (by first | rfl | (simp; done) | (simp [*]; done)), (by first | rfl | (simp; done) | (simp [*]; done)), (by first | rfl | (simp; done) | (simp [*]; done)), H', ⟨by have := HK1.out; omega⟩, ⟨by (with_reducible repeat (first | refine blk_drewN ?_ _ | refine blk_drew ?_ | refine blk_alloc ?_ _)); exact BK179.out⟩, ⟨by (with_reducible repeat (first | refine blk_drewN ?_ _ | refine blk_drew ?_ | refine blk_alloc ?_ _)); exact BK180.out⟩, ⟨by repeat (first | (with_reducible first | exact HB.out | apply below_alloc | apply pw_below_drewN | apply below_drew1 | refine below_set ?_ GE179.out | refine below_set ?_ GE180.out | refine below_set ?_ GE183.out) | exact HB.out)⟩⟩
       ·rw [if_neg c14] at H
        have c14b0 : (x19_1 == 0) = false := beq_eq_false_iff_ne.mpr c14
        have c14b1 : (x19_1 != 0) = true := bne_iff_ne.mpr c14
        by_cases c23 : t185 < x8_1
        ·rw [if_pos c23] at H
         have c23b0 : decide (t185 < x8_1) = true := decide_eq_true c23
         clear c23
         have H' := Aside0.mk H
         clear H
         have p182 : 0 ≤ (x19_1 : Int) := of_decide_eq_true (by first | (with_reducible assumption) | assumption)
         have q182 : x19_1 < (l0_0.length : Int) := of_decide_eq_true (by first | (with_reducible assumption) | assumption)
         obtain ⟨ad182, A182_2, c182_2, e182, hx182_0, hx182_1, hx182_2, hx182_3, hl182_2, hi182_2⟩ := at_T45 HR0_0.out x19_1 p182 q182
         cases e182
         replace hx182_0 := (HB.out.cell (World.block_lt_of_cell? w _ hx182_0)).trans hx182_0
         replace hx182_1 := (HB.out.cell (World.block_lt_of_cell? w _ hx182_1)).trans hx182_1
         replace hx182_2 := (HB.out.cell (World.block_lt_of_cell? w _ hx182_2)).trans hx182_2
         replace hx182_3 := (HB.out.cell (World.block_lt_of_cell? w _ hx182_3)).trans hx182_3
         have HR182_2 := Aside0.mk hi182_2
         have HC182_2 := Aside0.mk hl182_2
         clear hi182_2 hl182_2
         replace p182 := eq_true p182
         replace q182 := eq_true q182
         try go_wp2_with (first | ((with_reducible refine gate_dst (N := 10) rfl ?_); refine box_event ?hg (N := 10) ?hd (cs := #[.int .i64 0, .int .i64 0, .slice none 0 0, .int .u8 0]) (t := 45) ?hr ?_; (case hd => rfl); (case hg => rfl); (case hr => first | (go_simp; done) | (go_simp; rfl)); intro gb183 hg w24 hbox hb; have n0_ := Aside0.mk (blk_below (bU BK179.out) hb); have n1_ := Aside0.mk (blk_below (bU BK180.out) hb); have n2_ := Aside0.mk (below_step (by repeat (first | (with_reducible first | exact HB.out | apply below_alloc | apply pw_below_drewN | apply below_drew1 | refine below_set ?_ GE179.out | refine below_set ?_ GE180.out) | exact HB.out)) hb); have n3_ := Aside0.mk (hbox); have n4_ := Aside0.mk ((by rw [hg]; exact (below_size (by repeat (first | (with_reducible first | exact HB.out | apply below_alloc | apply pw_below_drewN | apply below_drew1 | refine below_set ?_ GE179.out | refine below_set ?_ GE180.out) | exact HB.out))) : w.heap.size ≤ gb183)); have n5_ := Aside0.mk ((by rw [hg]; exact (below_size (by repeat (first | (with_reducible first | exact HB.out | apply below_alloc | apply pw_below_drewN | apply below_drew1 | refine below_set ?_ GE179.out | refine below_set ?_ GE180.out) | exact HB.out))) : w.heap.size ≤ gb183)); have n6_ := Aside0.mk ((by rw [hg]; exact Nat.ne_of_lt (blk_lt (bU BK179.out)) : b0_0 ≠ gb183)); have n7_ := Aside0.mk ((by rw [hg]; exact Nat.ne_of_gt (blk_lt (bU BK179.out)) : gb183 ≠ b0_0)); have n8_ := Aside0.mk ((by rw [hg]; exact Nat.ne_of_lt (blk_lt (bU BK180.out)) : gb180 ≠ gb183)); have n9_ := Aside0.mk ((by rw [hg]; exact Nat.ne_of_gt (blk_lt (bU BK180.out)) : gb183 ≠ gb180)); clear BK179; clear BK180; clear HB; have BK179 := n0_; have BK180 := n1_; have HB := n2_; have BK183 := n3_; have GW183 := n4_; have GE183 := n5_; have NB179_183 := n6_; have NB183_179 := n7_; have NB180_183 := n8_; have NB183_180 := n9_; clear n0_ n1_ n2_ n3_ n4_ n5_ n6_ n7_ n8_ n9_; clear hb hbox hg; have hnb25 := NB183_179.out; have hnc25 := NB179_183.out; have hnb26 := NB183_180.out; have hnc26 := NB180_183.out; have hcz27_0 : w24.cell? ⟨gb183, 0, none⟩ = some (.int .i64 0) := (blk_cell BK183.out 0).trans rfl; have hcz27_1 : w24.cell? ⟨gb183, 1, none⟩ = some (.int .i64 0) := (blk_cell BK183.out 1).trans rfl; have hcz27_2 : w24.cell? ⟨gb183, 2, none⟩ = some (.slice none 0 0) := (blk_cell BK183.out 2).trans rfl; have hcz27_3 : w24.cell? ⟨gb183, 3, none⟩ = some (.int .u8 0) := (blk_cell BK183.out 3).trans rfl; have hfz27_0 := blk_frozen BK183.out 0; have hfz27_1 := blk_frozen BK183.out 1; have hfz27_2 := blk_frozen BK183.out 2; have hfz27_3 := blk_frozen BK183.out 3))
         have n0_ : Aside0 (((((w24.setCell ⟨gb183, 0, none⟩ (.int .i64 ((rd_T45 l0_0 x19_1).f0.f0))).setCell ⟨gb183, 1, none⟩ (.int .i64 ((rd_T45 l0_0 x19_1).f0.f1))).setCell ⟨gb183, 2, none⟩ (.slice A182_2 ((rd_T45 l0_0 x19_1).f0.f2).length c182_2)).setCell ⟨gb183, 3, none⟩ (.int .u8 ((rd_T45 l0_0 x19_1).f1))).heap[b0_0]? = some (.cells #[.slice (some ad182) l0_0.length c0_0, .slice A0_1 l0_1.length c0_1, .int .i64 a0_2] 67 (0, 0))) := ⟨by (with_reducible repeat (first | refine blk_drewN ?_ _ | refine blk_drew ?_ | refine blk_alloc ?_ _)); refine blk_far ?_ NB179_183.out _; (with_reducible repeat (first | refine blk_drewN ?_ _ | refine blk_drew ?_ | refine blk_alloc ?_ _)); refine blk_far ?_ NB179_183.out _; (with_reducible repeat (first | refine blk_drewN ?_ _ | refine blk_drew ?_ | refine blk_alloc ?_ _)); refine blk_far ?_ NB179_183.out _; (with_reducible repeat (first | refine blk_drewN ?_ _ | refine blk_drew ?_ | refine blk_alloc ?_ _)); refine blk_far ?_ NB179_183.out _; (with_reducible repeat (first | refine blk_drewN ?_ _ | refine blk_drew ?_ | refine blk_alloc ?_ _)); exact BK179.out⟩
         have n1_ : Aside0 (((((w24.setCell ⟨gb183, 0, none⟩ (.int .i64 ((rd_T45 l0_0 x19_1).f0.f0))).setCell ⟨gb183, 1, none⟩ (.int .i64 ((rd_T45 l0_0 x19_1).f0.f1))).setCell ⟨gb183, 2, none⟩ (.slice A182_2 ((rd_T45 l0_0 x19_1).f0.f2).length c182_2)).setCell ⟨gb183, 3, none⟩ (.int .u8 ((rd_T45 l0_0 x19_1).f1))).heap[gb180]? = some (.cells #[.int .i64 a1_0, .int .i64 a1_1, .slice A1_2 l1_2.length c1_2] 34 (0, 0))) := ⟨by (with_reducible repeat (first | refine blk_drewN ?_ _ | refine blk_drew ?_ | refine blk_alloc ?_ _)); refine blk_far ?_ NB180_183.out _; (with_reducible repeat (first | refine blk_drewN ?_ _ | refine blk_drew ?_ | refine blk_alloc ?_ _)); refine blk_far ?_ NB180_183.out _; (with_reducible repeat (first | refine blk_drewN ?_ _ | refine blk_drew ?_ | refine blk_alloc ?_ _)); refine blk_far ?_ NB180_183.out _; (with_reducible repeat (first | refine blk_drewN ?_ _ | refine blk_drew ?_ | refine blk_alloc ?_ _)); refine blk_far ?_ NB180_183.out _; (with_reducible repeat (first | refine blk_drewN ?_ _ | refine blk_drew ?_ | refine blk_alloc ?_ _)); exact BK180.out⟩
         have n2_ : Aside0 (((((w24.setCell ⟨gb183, 0, none⟩ (.int .i64 ((rd_T45 l0_0 x19_1).f0.f0))).setCell ⟨gb183, 1, none⟩ (.int .i64 ((rd_T45 l0_0 x19_1).f0.f1))).setCell ⟨gb183, 2, none⟩ (.slice A182_2 ((rd_T45 l0_0 x19_1).f0.f2).length c182_2)).setCell ⟨gb183, 3, none⟩ (.int .u8 ((rd_T45 l0_0 x19_1).f1))).heap[gb183]? = some (.cells #[.int .i64 ((rd_T45 l0_0 x19_1).f0.f0), .int .i64 ((rd_T45 l0_0 x19_1).f0.f1), .slice A182_2 ((rd_T45 l0_0 x19_1).f0.f2).length c182_2, .int .u8 ((rd_T45 l0_0 x19_1).f1)] 45 (0, 0))) := ⟨by (with_reducible repeat (first | refine blk_drewN ?_ _ | refine blk_drew ?_ | refine blk_alloc ?_ _)); refine blk_put (cs := #[.int .i64 ((rd_T45 l0_0 x19_1).f0.f0), .int .i64 ((rd_T45 l0_0 x19_1).f0.f1), .slice A182_2 ((rd_T45 l0_0 x19_1).f0.f2).length c182_2, .int .u8 0]) ?_ 3 _ rfl; (with_reducible repeat (first | refine blk_drewN ?_ _ | refine blk_drew ?_ | refine blk_alloc ?_ _)); refine blk_put (cs := #[.int .i64 ((rd_T45 l0_0 x19_1).f0.f0), .int .i64 ((rd_T45 l0_0 x19_1).f0.f1), .slice none 0 0, .int .u8 0]) ?_ 2 _ rfl; (with_reducible repeat (first | refine blk_drewN ?_ _ | refine blk_drew ?_ | refine blk_alloc ?_ _)); refine blk_put (cs := #[.int .i64 ((rd_T45 l0_0 x19_1).f0.f0), .int .i64 0, .slice none 0 0, .int .u8 0]) ?_ 1 _ rfl; (with_reducible repeat (first | refine blk_drewN ?_ _ | refine blk_drew ?_ | refine blk_alloc ?_ _)); refine blk_put (cs := #[.int .i64 0, .int .i64 0, .slice none 0 0, .int .u8 0]) ?_ 0 _ rfl; (with_reducible repeat (first | refine blk_drewN ?_ _ | refine blk_drew ?_ | refine blk_alloc ?_ _)); exact BK183.out⟩
         have n3_ : Aside0 (Below w.heap.size w ((((w24.setCell ⟨gb183, 0, none⟩ (.int .i64 ((rd_T45 l0_0 x19_1).f0.f0))).setCell ⟨gb183, 1, none⟩ (.int .i64 ((rd_T45 l0_0 x19_1).f0.f1))).setCell ⟨gb183, 2, none⟩ (.slice A182_2 ((rd_T45 l0_0 x19_1).f0.f2).length c182_2)).setCell ⟨gb183, 3, none⟩ (.int .u8 ((rd_T45 l0_0 x19_1).f1)))) := ⟨by repeat (first | (with_reducible first | exact HB.out | apply below_alloc | apply pw_below_drewN | apply below_drew1 | refine below_set ?_ GE179.out | refine below_set ?_ GE180.out | refine below_set ?_ GE183.out) | exact HB.out)⟩
         (try clear BK179)
         (try clear BK180)
         (try clear BK183)
         (try clear HB)
         generalize ((((w24.setCell ⟨gb183, 0, none⟩ (.int .i64 ((rd_T45 l0_0 x19_1).f0.f0))).setCell ⟨gb183, 1, none⟩ (.int .i64 ((rd_T45 l0_0 x19_1).f0.f1))).setCell ⟨gb183, 2, none⟩ (.slice A182_2 ((rd_T45 l0_0 x19_1).f0.f2).length c182_2)).setCell ⟨gb183, 3, none⟩ (.int .u8 ((rd_T45 l0_0 x19_1).f1))) = w28 at n0_ n1_ n2_ n3_ ⊢
         have BK179 := n0_
         have BK180 := n1_
         have BK183 := n2_
         have HB := n3_
         clear n0_ n1_ n2_ n3_
         have n0_ := Aside0.mk (blk_drew BK179.out)
         have n1_ := Aside0.mk (blk_drew BK180.out)
         have n2_ := Aside0.mk (blk_drew BK183.out)
         have n3_ := Aside0.mk (below_drew1 HB.out)
         clear BK179
         clear BK180
         clear BK183
         clear HB
         have BK179 := n0_
         have BK180 := n1_
         have BK183 := n2_
         have HB := n3_
         clear n0_ n1_ n2_ n3_
         have p184 : 0 ≤ (x19_1 : Int) := of_decide_eq_true (by first | (with_reducible assumption) | assumption)
         have q184 : x19_1 < (l0_1.length : Int) := of_decide_eq_true (by first | (with_reducible assumption) | assumption)
         obtain ⟨ad184, e184, hx184_0⟩ := Kd.at_int HR0_1.out x19_1 p184 q184
         have hw184_0 := hx184_0
         cases e184
         replace hx184_0 := (HB.out.cell (World.block_lt_of_cell? w _ hx184_0)).trans hx184_0
         replace p184 := eq_true p184
         replace q184 := eq_true q184
         refine start_ (n := 13) (S := fun w' => w'.cell? ⟨gb183, 0, none⟩ = some (.int .i64 ((rd_T45 l0_0 x19_1).f0.f0)) ∧ w'.cell? ⟨gb183, 1, none⟩ = some (.int .i64 ((rd_T45 l0_0 x19_1).f0.f1)) ∧ w'.cell? ⟨gb183, 2, none⟩ = some (.slice A182_2 ((rd_T45 l0_0 x19_1).f0.f2).length c182_2) ∧ w'.cell? ⟨gb183, 3, none⟩ = some (.int .u8 ((rd_T45 l0_0 x19_1).f1)) ∧ w'.cell? ⟨gb180, 0, none⟩ = some (.int .i64 a1_0) ∧ w'.cell? ⟨gb180, 1, none⟩ = some (.int .i64 a1_1) ∧ w'.cell? ⟨gb180, 2, none⟩ = some (.slice A1_2 l1_2.length c1_2) ∧ w'.cell? ⟨b0_0, 0, none⟩ = some (.slice (some ad182) l0_0.length c0_0) ∧ w'.cell? ⟨b0_0, 1, none⟩ = some (.slice (some ad184) l0_1.length c0_1) ∧ w'.cell? ⟨b0_0, 2, none⟩ = some (.int .i64 a0_2) ∧ w'.cell? (ad184.add (x19_1).toNat) = some (.int .i64 (rd l0_1 x19_1))) (ds := []) #[false, false, false, false, false, false, false, false, false, false, false, false, false] (by kernel_rfl) rfl rfl ⟨(blk_cell BK183.out 0).trans rfl, (blk_cell BK183.out 1).trans rfl, (blk_cell BK183.out 2).trans rfl, (blk_cell BK183.out 3).trans rfl, (blk_cell BK180.out 0).trans rfl, (blk_cell BK180.out 1).trans rfl, (blk_cell BK180.out 2).trans rfl, (blk_cell BK179.out 0).trans rfl, (blk_cell BK179.out 1).trans rfl, (blk_cell BK179.out 2).trans rfl, ((HB.out.cell (World.block_lt_of_cell? w _ hw184_0)).trans hw184_0)⟩ (fun hHeld => ?_); refine with_tabW letter_reader_one_b.tab6 letter_reader_one_b.bits6 (fun HT_ HW_ => ?_)
         generalize w28.drew = w29 at BK179 BK180 BK183 HB hx184_0 hHeld ⊢
         refine pure_ (i := 0) (N := some 24) (v := ?_) (a' := ?_) (bv 13 1) rfl rfl (any_of HT_.out (by kernel_rfl)) (fun _ _ _ h => h) (Or.inl ⟨by rfl, ?_⟩) ?_ ?_
         rotate_left
         ·intro w'
          go_simp
          with_reducible rfl
         rotate_left
         ·simp only [Act.put, List.setIfInBounds_toArray, List.set_cons_zero, List.set_cons_succ, i64_w, i32_w]
          rfl
         refine pure_ (i := 3) (N := some 27) (v := ?_) (a' := ?_) (bv 13 9) rfl rfl (any_of HT_.out (by kernel_rfl)) (fun _ _ _ h => h) (Or.inl ⟨by rfl, ?_⟩) ?_ ?_
         rotate_left
         ·intro w'
          go_simp
          with_reducible rfl
         rotate_left
         ·simp only [Act.put, List.setIfInBounds_toArray, List.set_cons_zero, List.set_cons_succ, i64_w, i32_w]
          rfl
         refine pure_ (i := 4) (N := some 28) (v := ?_) (a' := ?_) (bv 13 25) rfl rfl (any_of HT_.out (by kernel_rfl)) (fun _ _ _ h => h) (Or.inl ⟨by rfl, ?_⟩) ?_ ?_
         rotate_left
         ·intro w'
          go_simp
          with_reducible rfl
         rotate_left
         ·simp only [Act.put, List.setIfInBounds_toArray, List.set_cons_zero, List.set_cons_succ, i64_w, i32_w]
          rfl
         refine pure_ (i := 5) (N := some 29) (v := ?_) (a' := ?_) (bv 13 57) rfl rfl (any_of HT_.out (by kernel_rfl)) (fun _ _ _ h => h) (Or.inl ⟨by rfl, ?_⟩) ?_ ?_
         rotate_left
         ·intro w'
          go_simp
          with_reducible rfl
         rotate_left
         ·simp only [Act.put, List.setIfInBounds_toArray, List.set_cons_zero, List.set_cons_succ, i64_w, i32_w]
          rfl
         refine pure_ (i := 7) (N := some 31) (v := ?_) (a' := ?_) (bv 13 185) rfl rfl (any_of HT_.out (by kernel_rfl)) (fun _ _ _ h => h) (Or.inl ⟨by rfl, ?_⟩) ?_ ?_
         rotate_left
         ·intro w'
          go_simp
          with_reducible rfl
         rotate_left
         ·simp only [Act.put, List.setIfInBounds_toArray, List.set_cons_zero, List.set_cons_succ, i64_w, i32_w]
          rfl
         refine pure_ (i := 10) (N := some 34) (v := ?_) (a' := ?_) (bv 13 1209) rfl rfl (any_of HT_.out (by kernel_rfl)) (fun _ _ _ h => h) (Or.inl ⟨by rfl, ?_⟩) ?_ ?_
         rotate_left
         ·intro w'
          go_simp
          with_reducible rfl
         rotate_left
         ·simp only [Act.put, List.setIfInBounds_toArray, List.set_cons_zero, List.set_cons_succ, i64_w, i32_w]
          rfl
         refine take_ (i := 1) (N := some 25) (v := ?_) (a' := ?_) (bv 13 1211) rfl rfl (take_ofW HT_.out HW_.out (by kernel_rfl)) (fun _ _ _ h => h) (Or.inl ⟨by rfl, ?_⟩) hHeld ?_ ?_
         rotate_left
         ·rintro w' ⟨s0, s1, s2, s3, s4, s5, s6, s7, s8, s9, s10⟩
          go_simp
          with_reducible rfl
         rotate_left
         ·simp only [Act.put, List.setIfInBounds_toArray, List.set_cons_zero, List.set_cons_succ, i64_w, i32_w]
          rfl
         refine take_ (i := 2) (N := some 26) (v := ?_) (a' := ?_) (bv 13 1215) rfl rfl (take_ofW HT_.out HW_.out (by kernel_rfl)) (fun _ _ _ h => h) (Or.inl ⟨by rfl, ?_⟩) hHeld ?_ ?_
         rotate_left
         ·rintro w' ⟨s0, s1, s2, s3, s4, s5, s6, s7, s8, s9, s10⟩
          go_simp
          with_reducible rfl
         rotate_left
         ·simp only [Act.put, List.setIfInBounds_toArray, List.set_cons_zero, List.set_cons_succ, i64_w, i32_w]
          rfl
         refine take_ (i := 6) (N := some 30) (v := ?_) (a' := ?_) (bv 13 1279) rfl rfl (take_ofW HT_.out HW_.out (by kernel_rfl)) (fun _ _ _ h => h) (Or.inl ⟨by rfl, ?_⟩) hHeld ?_ ?_
         rotate_left
         ·rintro w' ⟨s0, s1, s2, s3, s4, s5, s6, s7, s8, s9, s10⟩
          go_simp
          with_reducible rfl
         rotate_left
         ·simp only [Act.put, List.setIfInBounds_toArray, List.set_cons_zero, List.set_cons_succ, i64_w, i32_w]
          rfl
         refine pure_ (i := 8) (N := some 32) (v := ?_) (a' := ?_) (bv 13 1535) rfl rfl (any_of HT_.out (by kernel_rfl)) (fun _ _ _ h => h) (Or.inl ⟨by rfl, ?_⟩) ?_ ?_
         rotate_left
         ·intro w'
          go_simp
          with_reducible rfl
         rotate_left
         ·simp only [Act.put, List.setIfInBounds_toArray, List.set_cons_zero, List.set_cons_succ, i64_w, i32_w]
          rfl
         refine take_ (i := 9) (N := some 33) (v := ?_) (a' := ?_) (bv 13 2047) rfl rfl (take_ofW HT_.out HW_.out (by kernel_rfl)) (fun _ _ _ h => h) (Or.inl ⟨by rfl, ?_⟩) hHeld ?_ ?_
         rotate_left
         ·rintro w' ⟨s0, s1, s2, s3, s4, s5, s6, s7, s8, s9, s10⟩
          go_simp
          with_reducible rfl
         rotate_left
         ·simp only [Act.put, List.setIfInBounds_toArray, List.set_cons_zero, List.set_cons_succ, i64_w, i32_w]
          rfl
         refine one_ (i := 11) (N := some 35) (bv 13 4095) rfl rfl (one_of HT_.out (by kernel_rfl)) (by decide) (fun K hK => ?_)
         refine goes_ Try.func20 (by kernel_rfl) rfl #[.agg #[.int .i64 ((rd_T45 l0_0 x19_1).f0.f0), .int .i64 ((rd_T45 l0_0 x19_1).f0.f1), .slice A182_2 ((rd_T45 l0_0 x19_1).f0.f2).length c182_2], .agg #[.int .i64 a1_0, .int .i64 a1_1, .slice A1_2 l1_2.length c1_2], .int .i64 (rd l0_1 x19_1), .int .i64 t181] (by rfl) rfl rfl (by (try simp only [List.map_toArray, List.map_cons, List.map_nil]); first | done | rfl | (simp only [List.length_drop, List.length_take]; rfl)) ?_
         with_reducible refine (letter_distance.calls k1 ((rd_T45 l0_0 x19_1).f0.f0) ((rd_T45 l0_0 x19_1).f0.f1) _ _ ((rd_T45 l0_0 x19_1).f0.f2) a1_0 a1_1 _ _ l1_2 (rd l0_1 x19_1) t181 t185 _ ?side1 ?side2 ?side3 ?side4 A13.out).mono ?_
         (case side1 => repeat (first | exact (Kd.C_below HR182_2.out HB.out) | (with_reducible refine Kd.C_alloc ?_ _) | (with_reducible refine Kd.C_drewN ?_ _) | (with_reducible refine Kd.C_drew ?_)))
         (case side2 => exact HC182_2.out)
         (case side3 => repeat (first | exact (Kd.C_below HR1_2.out HB.out) | (with_reducible refine Kd.C_alloc ?_ _) | (with_reducible refine Kd.C_drewN ?_ _) | (with_reducible refine Kd.C_drew ?_)))
         (case side4 => exact HC1_2.out)
         rintro e w30 ⟨rfl, hb⟩
         refine ⟨_, rfl, ?_⟩
         have n0_ := Aside0.mk (blk_below (bU BK179.out) hb)
         have n1_ := Aside0.mk (blk_below (bU BK180.out) hb)
         have n2_ := Aside0.mk (blk_below (g := gb183) (o := .cells #[.int .i64 ((rd_T45 l0_0 x19_1).f0.f0), .int .i64 ((rd_T45 l0_0 x19_1).f0.f1), .slice A182_2 ((rd_T45 l0_0 x19_1).f0.f2).length c182_2, .int .u8 ((rd_T45 l0_0 x19_1).f1)] 45 (0, 0)) (bU BK183.out) hb)
         have n3_ := Aside0.mk (below_step (by repeat (first | (with_reducible first | exact HB.out | apply below_alloc | apply pw_below_drewN | apply below_drew1 | refine below_set ?_ GE179.out | refine below_set ?_ GE180.out | refine below_set ?_ GE183.out) | exact HB.out)) hb)
         clear BK179
         clear BK180
         clear BK183
         clear HB
         have BK179 := n0_
         have BK180 := n1_
         have BK183 := n2_
         have HB := n3_
         clear n0_ n1_ n2_ n3_
         (try clear hb)
         (try clear hb2)
         (try clear hk)
         (try clear hi)
         refine hK.out _ _ ⟨(blk_cell BK183.out 0).trans rfl, (blk_cell BK183.out 1).trans rfl, (blk_cell BK183.out 2).trans rfl, (blk_cell BK183.out 3).trans rfl, (blk_cell BK180.out 0).trans rfl, (blk_cell BK180.out 1).trans rfl, (blk_cell BK180.out 2).trans rfl, (blk_cell BK179.out 0).trans rfl, (blk_cell BK179.out 1).trans rfl, (blk_cell BK179.out 2).trans rfl, ((HB.out.cell (World.block_lt_of_cell? w _ hw184_0)).trans hw184_0)⟩ (fun hHeld => ?_)
         clear hK K
         refine norm_ (a' := ?_) ?_ ?_
         rotate_left
         ·show Act.put _ (some 35) _ = _
          simp only [Act.put, List.setIfInBounds_toArray, List.set_cons_zero, List.set_cons_succ, i64_w, i32_w]
          rfl
         refine pure_ (i := 12) (N := some 11) (v := ?_) (a' := ?_) (bv 13 8191) rfl rfl (any_of HT_.out (by kernel_rfl)) (fun _ _ _ h => h) (Or.inl ⟨by rfl, ?_⟩) ?_ ?_
         rotate_left
         ·intro w'
          go_simp
          with_reducible rfl
         rotate_left
         ·simp only [Act.put, List.setIfInBounds_toArray, List.set_cons_zero, List.set_cons_succ, i64_w, i32_w]
          rfl
         refine done_ (done_of HT_.out (by kernel_rfl)) ?_
         have hcz31_0 : w30.cell? ⟨gb183, 0, none⟩ = some (.int .i64 ((rd_T45 l0_0 x19_1).f0.f0)) := (blk_cell BK183.out 0).trans rfl
         have hcz31_1 : w30.cell? ⟨gb183, 1, none⟩ = some (.int .i64 ((rd_T45 l0_0 x19_1).f0.f1)) := (blk_cell BK183.out 1).trans rfl
         have hcz31_2 : w30.cell? ⟨gb183, 2, none⟩ = some (.slice A182_2 ((rd_T45 l0_0 x19_1).f0.f2).length c182_2) := (blk_cell BK183.out 2).trans rfl
         have hcz31_3 : w30.cell? ⟨gb183, 3, none⟩ = some (.int .u8 ((rd_T45 l0_0 x19_1).f1)) := (blk_cell BK183.out 3).trans rfl
         have hfz31_0 := blk_frozen BK183.out 0
         have hfz31_1 := blk_frozen BK183.out 1
         have hfz31_2 := blk_frozen BK183.out 2
         have hfz31_3 := blk_frozen BK183.out 3
         try go_wp2
         go_roundg k1
         case measure => have := HK1.out; omega
         case rel => exact ⟨((rd_T45 l0_0 x19_1).f1), (t185), (wrap64 (x19_1 + 1)), (by first | rfl | (simp; done) | (simp [*]; done)), (by first | rfl | (simp; done) | (simp [*]; done)), (by first | rfl | (simp; done) | (simp [*]; done)), H', ⟨by have := HK1.out; omega⟩, ⟨by (with_reducible repeat (first | refine blk_drewN ?_ _ | refine blk_drew ?_ | refine blk_alloc ?_ _)); exact BK179.out⟩, ⟨by (with_reducible repeat (first | refine blk_drewN ?_ _ | refine blk_drew ?_ | refine blk_alloc ?_ _)); exact BK180.out⟩, ⟨by repeat (first | (with_reducible first | exact HB.out | apply below_alloc | apply pw_below_drewN | apply below_drew1 | refine below_set ?_ GE179.out | refine below_set ?_ GE180.out | refine below_set ?_ GE183.out) | exact HB.out)⟩⟩
        ·rw [if_neg c23] at H
         have c23b0 : decide (t185 < x8_1) = false := decide_eq_false c23
         clear c23
         have H' := Aside0.mk H
         clear H
         have p182 : 0 ≤ (x19_1 : Int) := of_decide_eq_true (by first | (with_reducible assumption) | assumption)
         have q182 : x19_1 < (l0_0.length : Int) := of_decide_eq_true (by first | (with_reducible assumption) | assumption)
         obtain ⟨ad182, A182_2, c182_2, e182, hx182_0, hx182_1, hx182_2, hx182_3, hl182_2, hi182_2⟩ := at_T45 HR0_0.out x19_1 p182 q182
         cases e182
         replace hx182_0 := (HB.out.cell (World.block_lt_of_cell? w _ hx182_0)).trans hx182_0
         replace hx182_1 := (HB.out.cell (World.block_lt_of_cell? w _ hx182_1)).trans hx182_1
         replace hx182_2 := (HB.out.cell (World.block_lt_of_cell? w _ hx182_2)).trans hx182_2
         replace hx182_3 := (HB.out.cell (World.block_lt_of_cell? w _ hx182_3)).trans hx182_3
         have HR182_2 := Aside0.mk hi182_2
         have HC182_2 := Aside0.mk hl182_2
         clear hi182_2 hl182_2
         replace p182 := eq_true p182
         replace q182 := eq_true q182
         try go_wp2_with (first | ((with_reducible refine gate_dst (N := 10) rfl ?_); refine box_event ?hg (N := 10) ?hd (cs := #[.int .i64 0, .int .i64 0, .slice none 0 0, .int .u8 0]) (t := 45) ?hr ?_; (case hd => rfl); (case hg => rfl); (case hr => first | (go_simp; done) | (go_simp; rfl)); intro gb183 hg w32 hbox hb; have n0_ := Aside0.mk (blk_below (bU BK179.out) hb); have n1_ := Aside0.mk (blk_below (bU BK180.out) hb); have n2_ := Aside0.mk (below_step (by repeat (first | (with_reducible first | exact HB.out | apply below_alloc | apply pw_below_drewN | apply below_drew1 | refine below_set ?_ GE179.out | refine below_set ?_ GE180.out) | exact HB.out)) hb); have n3_ := Aside0.mk (hbox); have n4_ := Aside0.mk ((by rw [hg]; exact (below_size (by repeat (first | (with_reducible first | exact HB.out | apply below_alloc | apply pw_below_drewN | apply below_drew1 | refine below_set ?_ GE179.out | refine below_set ?_ GE180.out) | exact HB.out))) : w.heap.size ≤ gb183)); have n5_ := Aside0.mk ((by rw [hg]; exact (below_size (by repeat (first | (with_reducible first | exact HB.out | apply below_alloc | apply pw_below_drewN | apply below_drew1 | refine below_set ?_ GE179.out | refine below_set ?_ GE180.out) | exact HB.out))) : w.heap.size ≤ gb183)); have n6_ := Aside0.mk ((by rw [hg]; exact Nat.ne_of_lt (blk_lt (bU BK179.out)) : b0_0 ≠ gb183)); have n7_ := Aside0.mk ((by rw [hg]; exact Nat.ne_of_gt (blk_lt (bU BK179.out)) : gb183 ≠ b0_0)); have n8_ := Aside0.mk ((by rw [hg]; exact Nat.ne_of_lt (blk_lt (bU BK180.out)) : gb180 ≠ gb183)); have n9_ := Aside0.mk ((by rw [hg]; exact Nat.ne_of_gt (blk_lt (bU BK180.out)) : gb183 ≠ gb180)); clear BK179; clear BK180; clear HB; have BK179 := n0_; have BK180 := n1_; have HB := n2_; have BK183 := n3_; have GW183 := n4_; have GE183 := n5_; have NB179_183 := n6_; have NB183_179 := n7_; have NB180_183 := n8_; have NB183_180 := n9_; clear n0_ n1_ n2_ n3_ n4_ n5_ n6_ n7_ n8_ n9_; clear hb hbox hg; have hnb33 := NB183_179.out; have hnc33 := NB179_183.out; have hnb34 := NB183_180.out; have hnc34 := NB180_183.out; have hcz35_0 : w32.cell? ⟨gb183, 0, none⟩ = some (.int .i64 0) := (blk_cell BK183.out 0).trans rfl; have hcz35_1 : w32.cell? ⟨gb183, 1, none⟩ = some (.int .i64 0) := (blk_cell BK183.out 1).trans rfl; have hcz35_2 : w32.cell? ⟨gb183, 2, none⟩ = some (.slice none 0 0) := (blk_cell BK183.out 2).trans rfl; have hcz35_3 : w32.cell? ⟨gb183, 3, none⟩ = some (.int .u8 0) := (blk_cell BK183.out 3).trans rfl; have hfz35_0 := blk_frozen BK183.out 0; have hfz35_1 := blk_frozen BK183.out 1; have hfz35_2 := blk_frozen BK183.out 2; have hfz35_3 := blk_frozen BK183.out 3))
         have n0_ : Aside0 (((((w32.setCell ⟨gb183, 0, none⟩ (.int .i64 ((rd_T45 l0_0 x19_1).f0.f0))).setCell ⟨gb183, 1, none⟩ (.int .i64 ((rd_T45 l0_0 x19_1).f0.f1))).setCell ⟨gb183, 2, none⟩ (.slice A182_2 ((rd_T45 l0_0 x19_1).f0.f2).length c182_2)).setCell ⟨gb183, 3, none⟩ (.int .u8 ((rd_T45 l0_0 x19_1).f1))).heap[b0_0]? = some (.cells #[.slice (some ad182) l0_0.length c0_0, .slice A0_1 l0_1.length c0_1, .int .i64 a0_2] 67 (0, 0))) := ⟨by (with_reducible repeat (first | refine blk_drewN ?_ _ | refine blk_drew ?_ | refine blk_alloc ?_ _)); refine blk_far ?_ NB179_183.out _; (with_reducible repeat (first | refine blk_drewN ?_ _ | refine blk_drew ?_ | refine blk_alloc ?_ _)); refine blk_far ?_ NB179_183.out _; (with_reducible repeat (first | refine blk_drewN ?_ _ | refine blk_drew ?_ | refine blk_alloc ?_ _)); refine blk_far ?_ NB179_183.out _; (with_reducible repeat (first | refine blk_drewN ?_ _ | refine blk_drew ?_ | refine blk_alloc ?_ _)); refine blk_far ?_ NB179_183.out _; (with_reducible repeat (first | refine blk_drewN ?_ _ | refine blk_drew ?_ | refine blk_alloc ?_ _)); exact BK179.out⟩
         have n1_ : Aside0 (((((w32.setCell ⟨gb183, 0, none⟩ (.int .i64 ((rd_T45 l0_0 x19_1).f0.f0))).setCell ⟨gb183, 1, none⟩ (.int .i64 ((rd_T45 l0_0 x19_1).f0.f1))).setCell ⟨gb183, 2, none⟩ (.slice A182_2 ((rd_T45 l0_0 x19_1).f0.f2).length c182_2)).setCell ⟨gb183, 3, none⟩ (.int .u8 ((rd_T45 l0_0 x19_1).f1))).heap[gb180]? = some (.cells #[.int .i64 a1_0, .int .i64 a1_1, .slice A1_2 l1_2.length c1_2] 34 (0, 0))) := ⟨by (with_reducible repeat (first | refine blk_drewN ?_ _ | refine blk_drew ?_ | refine blk_alloc ?_ _)); refine blk_far ?_ NB180_183.out _; (with_reducible repeat (first | refine blk_drewN ?_ _ | refine blk_drew ?_ | refine blk_alloc ?_ _)); refine blk_far ?_ NB180_183.out _; (with_reducible repeat (first | refine blk_drewN ?_ _ | refine blk_drew ?_ | refine blk_alloc ?_ _)); refine blk_far ?_ NB180_183.out _; (with_reducible repeat (first | refine blk_drewN ?_ _ | refine blk_drew ?_ | refine blk_alloc ?_ _)); refine blk_far ?_ NB180_183.out _; (with_reducible repeat (first | refine blk_drewN ?_ _ | refine blk_drew ?_ | refine blk_alloc ?_ _)); exact BK180.out⟩
         have n2_ : Aside0 (((((w32.setCell ⟨gb183, 0, none⟩ (.int .i64 ((rd_T45 l0_0 x19_1).f0.f0))).setCell ⟨gb183, 1, none⟩ (.int .i64 ((rd_T45 l0_0 x19_1).f0.f1))).setCell ⟨gb183, 2, none⟩ (.slice A182_2 ((rd_T45 l0_0 x19_1).f0.f2).length c182_2)).setCell ⟨gb183, 3, none⟩ (.int .u8 ((rd_T45 l0_0 x19_1).f1))).heap[gb183]? = some (.cells #[.int .i64 ((rd_T45 l0_0 x19_1).f0.f0), .int .i64 ((rd_T45 l0_0 x19_1).f0.f1), .slice A182_2 ((rd_T45 l0_0 x19_1).f0.f2).length c182_2, .int .u8 ((rd_T45 l0_0 x19_1).f1)] 45 (0, 0))) := ⟨by (with_reducible repeat (first | refine blk_drewN ?_ _ | refine blk_drew ?_ | refine blk_alloc ?_ _)); refine blk_put (cs := #[.int .i64 ((rd_T45 l0_0 x19_1).f0.f0), .int .i64 ((rd_T45 l0_0 x19_1).f0.f1), .slice A182_2 ((rd_T45 l0_0 x19_1).f0.f2).length c182_2, .int .u8 0]) ?_ 3 _ rfl; (with_reducible repeat (first | refine blk_drewN ?_ _ | refine blk_drew ?_ | refine blk_alloc ?_ _)); refine blk_put (cs := #[.int .i64 ((rd_T45 l0_0 x19_1).f0.f0), .int .i64 ((rd_T45 l0_0 x19_1).f0.f1), .slice none 0 0, .int .u8 0]) ?_ 2 _ rfl; (with_reducible repeat (first | refine blk_drewN ?_ _ | refine blk_drew ?_ | refine blk_alloc ?_ _)); refine blk_put (cs := #[.int .i64 ((rd_T45 l0_0 x19_1).f0.f0), .int .i64 0, .slice none 0 0, .int .u8 0]) ?_ 1 _ rfl; (with_reducible repeat (first | refine blk_drewN ?_ _ | refine blk_drew ?_ | refine blk_alloc ?_ _)); refine blk_put (cs := #[.int .i64 0, .int .i64 0, .slice none 0 0, .int .u8 0]) ?_ 0 _ rfl; (with_reducible repeat (first | refine blk_drewN ?_ _ | refine blk_drew ?_ | refine blk_alloc ?_ _)); exact BK183.out⟩
         have n3_ : Aside0 (Below w.heap.size w ((((w32.setCell ⟨gb183, 0, none⟩ (.int .i64 ((rd_T45 l0_0 x19_1).f0.f0))).setCell ⟨gb183, 1, none⟩ (.int .i64 ((rd_T45 l0_0 x19_1).f0.f1))).setCell ⟨gb183, 2, none⟩ (.slice A182_2 ((rd_T45 l0_0 x19_1).f0.f2).length c182_2)).setCell ⟨gb183, 3, none⟩ (.int .u8 ((rd_T45 l0_0 x19_1).f1)))) := ⟨by repeat (first | (with_reducible first | exact HB.out | apply below_alloc | apply pw_below_drewN | apply below_drew1 | refine below_set ?_ GE179.out | refine below_set ?_ GE180.out | refine below_set ?_ GE183.out) | exact HB.out)⟩
         (try clear BK179)
         (try clear BK180)
         (try clear BK183)
         (try clear HB)
         generalize ((((w32.setCell ⟨gb183, 0, none⟩ (.int .i64 ((rd_T45 l0_0 x19_1).f0.f0))).setCell ⟨gb183, 1, none⟩ (.int .i64 ((rd_T45 l0_0 x19_1).f0.f1))).setCell ⟨gb183, 2, none⟩ (.slice A182_2 ((rd_T45 l0_0 x19_1).f0.f2).length c182_2)).setCell ⟨gb183, 3, none⟩ (.int .u8 ((rd_T45 l0_0 x19_1).f1))) = w36 at n0_ n1_ n2_ n3_ ⊢
         have BK179 := n0_
         have BK180 := n1_
         have BK183 := n2_
         have HB := n3_
         clear n0_ n1_ n2_ n3_
         have n0_ := Aside0.mk (blk_drew BK179.out)
         have n1_ := Aside0.mk (blk_drew BK180.out)
         have n2_ := Aside0.mk (blk_drew BK183.out)
         have n3_ := Aside0.mk (below_drew1 HB.out)
         clear BK179
         clear BK180
         clear BK183
         clear HB
         have BK179 := n0_
         have BK180 := n1_
         have BK183 := n2_
         have HB := n3_
         clear n0_ n1_ n2_ n3_
         have p184 : 0 ≤ (x19_1 : Int) := of_decide_eq_true (by first | (with_reducible assumption) | assumption)
         have q184 : x19_1 < (l0_1.length : Int) := of_decide_eq_true (by first | (with_reducible assumption) | assumption)
         obtain ⟨ad184, e184, hx184_0⟩ := Kd.at_int HR0_1.out x19_1 p184 q184
         have hw184_0 := hx184_0
         cases e184
         replace hx184_0 := (HB.out.cell (World.block_lt_of_cell? w _ hx184_0)).trans hx184_0
         replace p184 := eq_true p184
         replace q184 := eq_true q184
         refine start_ (n := 13) (S := fun w' => w'.cell? ⟨gb183, 0, none⟩ = some (.int .i64 ((rd_T45 l0_0 x19_1).f0.f0)) ∧ w'.cell? ⟨gb183, 1, none⟩ = some (.int .i64 ((rd_T45 l0_0 x19_1).f0.f1)) ∧ w'.cell? ⟨gb183, 2, none⟩ = some (.slice A182_2 ((rd_T45 l0_0 x19_1).f0.f2).length c182_2) ∧ w'.cell? ⟨gb183, 3, none⟩ = some (.int .u8 ((rd_T45 l0_0 x19_1).f1)) ∧ w'.cell? ⟨gb180, 0, none⟩ = some (.int .i64 a1_0) ∧ w'.cell? ⟨gb180, 1, none⟩ = some (.int .i64 a1_1) ∧ w'.cell? ⟨gb180, 2, none⟩ = some (.slice A1_2 l1_2.length c1_2) ∧ w'.cell? ⟨b0_0, 0, none⟩ = some (.slice (some ad182) l0_0.length c0_0) ∧ w'.cell? ⟨b0_0, 1, none⟩ = some (.slice (some ad184) l0_1.length c0_1) ∧ w'.cell? ⟨b0_0, 2, none⟩ = some (.int .i64 a0_2) ∧ w'.cell? (ad184.add (x19_1).toNat) = some (.int .i64 (rd l0_1 x19_1))) (ds := []) #[false, false, false, false, false, false, false, false, false, false, false, false, false] (by kernel_rfl) rfl rfl ⟨(blk_cell BK183.out 0).trans rfl, (blk_cell BK183.out 1).trans rfl, (blk_cell BK183.out 2).trans rfl, (blk_cell BK183.out 3).trans rfl, (blk_cell BK180.out 0).trans rfl, (blk_cell BK180.out 1).trans rfl, (blk_cell BK180.out 2).trans rfl, (blk_cell BK179.out 0).trans rfl, (blk_cell BK179.out 1).trans rfl, (blk_cell BK179.out 2).trans rfl, ((HB.out.cell (World.block_lt_of_cell? w _ hw184_0)).trans hw184_0)⟩ (fun hHeld => ?_); refine with_tabW letter_reader_one_b.tab6 letter_reader_one_b.bits6 (fun HT_ HW_ => ?_)
         generalize w36.drew = w37 at BK179 BK180 BK183 HB hx184_0 hHeld ⊢
         refine pure_ (i := 0) (N := some 24) (v := ?_) (a' := ?_) (bv 13 1) rfl rfl (any_of HT_.out (by kernel_rfl)) (fun _ _ _ h => h) (Or.inl ⟨by rfl, ?_⟩) ?_ ?_
         rotate_left
         ·intro w'
          go_simp
          with_reducible rfl
         rotate_left
         ·simp only [Act.put, List.setIfInBounds_toArray, List.set_cons_zero, List.set_cons_succ, i64_w, i32_w]
          rfl
         refine pure_ (i := 3) (N := some 27) (v := ?_) (a' := ?_) (bv 13 9) rfl rfl (any_of HT_.out (by kernel_rfl)) (fun _ _ _ h => h) (Or.inl ⟨by rfl, ?_⟩) ?_ ?_
         rotate_left
         ·intro w'
          go_simp
          with_reducible rfl
         rotate_left
         ·simp only [Act.put, List.setIfInBounds_toArray, List.set_cons_zero, List.set_cons_succ, i64_w, i32_w]
          rfl
         refine pure_ (i := 4) (N := some 28) (v := ?_) (a' := ?_) (bv 13 25) rfl rfl (any_of HT_.out (by kernel_rfl)) (fun _ _ _ h => h) (Or.inl ⟨by rfl, ?_⟩) ?_ ?_
         rotate_left
         ·intro w'
          go_simp
          with_reducible rfl
         rotate_left
         ·simp only [Act.put, List.setIfInBounds_toArray, List.set_cons_zero, List.set_cons_succ, i64_w, i32_w]
          rfl
         refine pure_ (i := 5) (N := some 29) (v := ?_) (a' := ?_) (bv 13 57) rfl rfl (any_of HT_.out (by kernel_rfl)) (fun _ _ _ h => h) (Or.inl ⟨by rfl, ?_⟩) ?_ ?_
         rotate_left
         ·intro w'
          go_simp
          with_reducible rfl
         rotate_left
         ·simp only [Act.put, List.setIfInBounds_toArray, List.set_cons_zero, List.set_cons_succ, i64_w, i32_w]
          rfl
         refine pure_ (i := 7) (N := some 31) (v := ?_) (a' := ?_) (bv 13 185) rfl rfl (any_of HT_.out (by kernel_rfl)) (fun _ _ _ h => h) (Or.inl ⟨by rfl, ?_⟩) ?_ ?_
         rotate_left
         ·intro w'
          go_simp
          with_reducible rfl
         rotate_left
         ·simp only [Act.put, List.setIfInBounds_toArray, List.set_cons_zero, List.set_cons_succ, i64_w, i32_w]
          rfl
         refine pure_ (i := 10) (N := some 34) (v := ?_) (a' := ?_) (bv 13 1209) rfl rfl (any_of HT_.out (by kernel_rfl)) (fun _ _ _ h => h) (Or.inl ⟨by rfl, ?_⟩) ?_ ?_
         rotate_left
         ·intro w'
          go_simp
          with_reducible rfl
         rotate_left
         ·simp only [Act.put, List.setIfInBounds_toArray, List.set_cons_zero, List.set_cons_succ, i64_w, i32_w]
          rfl
         refine take_ (i := 1) (N := some 25) (v := ?_) (a' := ?_) (bv 13 1211) rfl rfl (take_ofW HT_.out HW_.out (by kernel_rfl)) (fun _ _ _ h => h) (Or.inl ⟨by rfl, ?_⟩) hHeld ?_ ?_
         rotate_left
         ·rintro w' ⟨s0, s1, s2, s3, s4, s5, s6, s7, s8, s9, s10⟩
          go_simp
          with_reducible rfl
         rotate_left
         ·simp only [Act.put, List.setIfInBounds_toArray, List.set_cons_zero, List.set_cons_succ, i64_w, i32_w]
          rfl
         refine take_ (i := 2) (N := some 26) (v := ?_) (a' := ?_) (bv 13 1215) rfl rfl (take_ofW HT_.out HW_.out (by kernel_rfl)) (fun _ _ _ h => h) (Or.inl ⟨by rfl, ?_⟩) hHeld ?_ ?_
         rotate_left
         ·rintro w' ⟨s0, s1, s2, s3, s4, s5, s6, s7, s8, s9, s10⟩
          go_simp
          with_reducible rfl
         rotate_left
         ·simp only [Act.put, List.setIfInBounds_toArray, List.set_cons_zero, List.set_cons_succ, i64_w, i32_w]
          rfl
         refine take_ (i := 6) (N := some 30) (v := ?_) (a' := ?_) (bv 13 1279) rfl rfl (take_ofW HT_.out HW_.out (by kernel_rfl)) (fun _ _ _ h => h) (Or.inl ⟨by rfl, ?_⟩) hHeld ?_ ?_
         rotate_left
         ·rintro w' ⟨s0, s1, s2, s3, s4, s5, s6, s7, s8, s9, s10⟩
          go_simp
          with_reducible rfl
         rotate_left
         ·simp only [Act.put, List.setIfInBounds_toArray, List.set_cons_zero, List.set_cons_succ, i64_w, i32_w]
          rfl
         refine pure_ (i := 8) (N := some 32) (v := ?_) (a' := ?_) (bv 13 1535) rfl rfl (any_of HT_.out (by kernel_rfl)) (fun _ _ _ h => h) (Or.inl ⟨by rfl, ?_⟩) ?_ ?_
         rotate_left
         ·intro w'
          go_simp
          with_reducible rfl
         rotate_left
         ·simp only [Act.put, List.setIfInBounds_toArray, List.set_cons_zero, List.set_cons_succ, i64_w, i32_w]
          rfl
         refine take_ (i := 9) (N := some 33) (v := ?_) (a' := ?_) (bv 13 2047) rfl rfl (take_ofW HT_.out HW_.out (by kernel_rfl)) (fun _ _ _ h => h) (Or.inl ⟨by rfl, ?_⟩) hHeld ?_ ?_
         rotate_left
         ·rintro w' ⟨s0, s1, s2, s3, s4, s5, s6, s7, s8, s9, s10⟩
          go_simp
          with_reducible rfl
         rotate_left
         ·simp only [Act.put, List.setIfInBounds_toArray, List.set_cons_zero, List.set_cons_succ, i64_w, i32_w]
          rfl
         refine one_ (i := 11) (N := some 35) (bv 13 4095) rfl rfl (one_of HT_.out (by kernel_rfl)) (by decide) (fun K hK => ?_)
         refine goes_ Try.func20 (by kernel_rfl) rfl #[.agg #[.int .i64 ((rd_T45 l0_0 x19_1).f0.f0), .int .i64 ((rd_T45 l0_0 x19_1).f0.f1), .slice A182_2 ((rd_T45 l0_0 x19_1).f0.f2).length c182_2], .agg #[.int .i64 a1_0, .int .i64 a1_1, .slice A1_2 l1_2.length c1_2], .int .i64 (rd l0_1 x19_1), .int .i64 t181] (by rfl) rfl rfl (by (try simp only [List.map_toArray, List.map_cons, List.map_nil]); first | done | rfl | (simp only [List.length_drop, List.length_take]; rfl)) ?_
         with_reducible refine (letter_distance.calls k1 ((rd_T45 l0_0 x19_1).f0.f0) ((rd_T45 l0_0 x19_1).f0.f1) _ _ ((rd_T45 l0_0 x19_1).f0.f2) a1_0 a1_1 _ _ l1_2 (rd l0_1 x19_1) t181 t185 _ ?side1 ?side2 ?side3 ?side4 A13.out).mono ?_
         (case side1 => repeat (first | exact (Kd.C_below HR182_2.out HB.out) | (with_reducible refine Kd.C_alloc ?_ _) | (with_reducible refine Kd.C_drewN ?_ _) | (with_reducible refine Kd.C_drew ?_)))
         (case side2 => exact HC182_2.out)
         (case side3 => repeat (first | exact (Kd.C_below HR1_2.out HB.out) | (with_reducible refine Kd.C_alloc ?_ _) | (with_reducible refine Kd.C_drewN ?_ _) | (with_reducible refine Kd.C_drew ?_)))
         (case side4 => exact HC1_2.out)
         rintro e w38 ⟨rfl, hb⟩
         refine ⟨_, rfl, ?_⟩
         have n0_ := Aside0.mk (blk_below (bU BK179.out) hb)
         have n1_ := Aside0.mk (blk_below (bU BK180.out) hb)
         have n2_ := Aside0.mk (blk_below (g := gb183) (o := .cells #[.int .i64 ((rd_T45 l0_0 x19_1).f0.f0), .int .i64 ((rd_T45 l0_0 x19_1).f0.f1), .slice A182_2 ((rd_T45 l0_0 x19_1).f0.f2).length c182_2, .int .u8 ((rd_T45 l0_0 x19_1).f1)] 45 (0, 0)) (bU BK183.out) hb)
         have n3_ := Aside0.mk (below_step (by repeat (first | (with_reducible first | exact HB.out | apply below_alloc | apply pw_below_drewN | apply below_drew1 | refine below_set ?_ GE179.out | refine below_set ?_ GE180.out | refine below_set ?_ GE183.out) | exact HB.out)) hb)
         clear BK179
         clear BK180
         clear BK183
         clear HB
         have BK179 := n0_
         have BK180 := n1_
         have BK183 := n2_
         have HB := n3_
         clear n0_ n1_ n2_ n3_
         (try clear hb)
         (try clear hb2)
         (try clear hk)
         (try clear hi)
         refine hK.out _ _ ⟨(blk_cell BK183.out 0).trans rfl, (blk_cell BK183.out 1).trans rfl, (blk_cell BK183.out 2).trans rfl, (blk_cell BK183.out 3).trans rfl, (blk_cell BK180.out 0).trans rfl, (blk_cell BK180.out 1).trans rfl, (blk_cell BK180.out 2).trans rfl, (blk_cell BK179.out 0).trans rfl, (blk_cell BK179.out 1).trans rfl, (blk_cell BK179.out 2).trans rfl, ((HB.out.cell (World.block_lt_of_cell? w _ hw184_0)).trans hw184_0)⟩ (fun hHeld => ?_)
         clear hK K
         refine norm_ (a' := ?_) ?_ ?_
         rotate_left
         ·show Act.put _ (some 35) _ = _
          simp only [Act.put, List.setIfInBounds_toArray, List.set_cons_zero, List.set_cons_succ, i64_w, i32_w]
          rfl
         refine pure_ (i := 12) (N := some 11) (v := ?_) (a' := ?_) (bv 13 8191) rfl rfl (any_of HT_.out (by kernel_rfl)) (fun _ _ _ h => h) (Or.inl ⟨by rfl, ?_⟩) ?_ ?_
         rotate_left
         ·intro w'
          go_simp
          with_reducible rfl
         rotate_left
         ·simp only [Act.put, List.setIfInBounds_toArray, List.set_cons_zero, List.set_cons_succ, i64_w, i32_w]
          rfl
         refine done_ (done_of HT_.out (by kernel_rfl)) ?_
         try go_wp2
         go_roundg k1
         case measure => have := HK1.out; omega
         case rel => exact ⟨(x7_1), (x8_1), (wrap64 (x19_1 + 1)), (by first | rfl | (simp; done) | (simp [*]; done)), (by first | rfl | (simp; done) | (simp [*]; done)), (by first | rfl | (simp; done) | (simp [*]; done)), H', ⟨by have := HK1.out; omega⟩, ⟨by (with_reducible repeat (first | refine blk_drewN ?_ _ | refine blk_drew ?_ | refine blk_alloc ?_ _)); exact BK179.out⟩, ⟨by (with_reducible repeat (first | refine blk_drewN ?_ _ | refine blk_drew ?_ | refine blk_alloc ?_ _)); exact BK180.out⟩, ⟨by repeat (first | (with_reducible first | exact HB.out | apply below_alloc | apply pw_below_drewN | apply below_drew1 | refine below_set ?_ GE179.out | refine below_set ?_ GE180.out | refine below_set ?_ GE183.out) | exact HB.out)⟩⟩
      ·rw [if_neg c12] at H
       exact absurd H (by simp)
     ·rw [if_neg c11] at H
      exact absurd H (by simp)
    ·rw [if_neg c10] at H
     exact absurd H (by simp)
   ·rw [if_neg c9] at H
    have c9b0 : decide (x19_1 < (l0_0.length : Int)) = false := decide_eq_false c9
    clear c9
    by_cases c39 : x8_1 > a0_2
    ·rw [if_pos c39] at H
     have c39b0 : decide (a0_2 < x8_1) = true := decide_eq_true c39
     clear c39
     simp only [Option.some.injEq, Prod.mk.injEq] at H
     obtain ⟨rfl, rfl⟩ := H
     have hnb40 := NB179_180.out
     have hnc40 := NB180_179.out
     have hcz41_0 : wr.cell? ⟨b0_0, 0, none⟩ = some (.slice A0_0 l0_0.length c0_0) := (blk_cell BK179.out 0).trans rfl
     have hcz41_1 : wr.cell? ⟨b0_0, 1, none⟩ = some (.slice A0_1 l0_1.length c0_1) := (blk_cell BK179.out 1).trans rfl
     have hcz41_2 : wr.cell? ⟨b0_0, 2, none⟩ = some (.int .i64 a0_2) := (blk_cell BK179.out 2).trans rfl
     have hfz41_0 := blk_frozen BK179.out 0
     have hfz41_1 := blk_frozen BK179.out 1
     have hfz41_2 := blk_frozen BK179.out 2
     go_wp2
     go_ret2
     exact ⟨by first | rfl | (simp [errW_none, errW_some] <;> rfl) | (simp [*, errW_none, errW_some] <;> rfl), by repeat (first | (with_reducible first | exact HB.out | apply below_alloc | apply pw_below_drewN | apply below_drew1 | refine below_set ?_ GE179.out | refine below_set ?_ GE180.out) | exact HB.out)⟩
    ·rw [if_neg c39] at H
     have c39b0 : decide (a0_2 < x8_1) = false := decide_eq_false c39
     clear c39
     simp only [Option.some.injEq, Prod.mk.injEq] at H
     obtain ⟨rfl, rfl⟩ := H
     have hnb42 := NB179_180.out
     have hnc42 := NB180_179.out
     have hcz43_0 : wr.cell? ⟨b0_0, 0, none⟩ = some (.slice A0_0 l0_0.length c0_0) := (blk_cell BK179.out 0).trans rfl
     have hcz43_1 : wr.cell? ⟨b0_0, 1, none⟩ = some (.slice A0_1 l0_1.length c0_1) := (blk_cell BK179.out 1).trans rfl
     have hcz43_2 : wr.cell? ⟨b0_0, 2, none⟩ = some (.int .i64 a0_2) := (blk_cell BK179.out 2).trans rfl
     have hfz43_0 := blk_frozen BK179.out 0
     have hfz43_1 := blk_frozen BK179.out 1
     have hfz43_2 := blk_frozen BK179.out 2
     go_wp2
     go_ret2
     exact ⟨by first | rfl | (simp [errW_none, errW_some] <;> rfl) | (simp [*, errW_none, errW_some] <;> rfl), by repeat (first | (with_reducible first | exact HB.out | apply below_alloc | apply pw_below_drewN | apply below_drew1 | refine below_set ?_ GE179.out | refine below_set ?_ GE180.out) | exact HB.out)⟩

def letter_reader_one.f (k : Nat) (s0_0 : List (S45)) (s0_1 : List Int) (s0_2 : Int) (a1_0 : Int) (a1_1 : Int) (l1_2 : List Int) : Option (Int × Int × Int) := (letter_reader_one_b.f k s0_0 s0_1 s0_2 a1_0 a1_1 l1_2).bind fun x => some (x.1, x.2, s0_2)
theorem letter_reader_one.mono : ∀ a0 a1 a2 a3 a4 a5 k, LeO (letter_reader_one.f k a0 a1 a2 a3 a4 a5) (letter_reader_one.f (k + 1) a0 a1 a2 a3 a4 a5) := by
 intro a0 a1 a2 a3 a4 a5 k
 unfold letter_reader_one.f
 exact LeO.bind (letter_reader_one_b.mono _ _ _ _ _ _  _) (fun _ => LeO.refl _)
theorem letter_reader_one.calls (k : Nat) (g : Nat) (s0_0 : List (S45)) (s0_1 : List Int) (s0_2 : Int) (a1_0 : Int) (a1_1 : Int) (A1_2 : Option Addr) (c1_2 : Nat) (l1_2 : List Int) (r1 : Int) (r2 : Int) (r3 : Int) (w0 w : World) (hI : IsS67 w0 w g s0_0 s0_1 s0_2) (hB : Below w0.heap.size w0 w) (hr1_2 : Kd.C (Kd.int .u8) w A1_2 l1_2.length l1_2) (hc1_2 : l1_2.length ≤ c1_2) (hf1_2 : ∀ ad, A1_2 = some ad → 0 < l1_2.length → ad.block ≠ g) (h : letter_reader_one.f k s0_0 s0_1 s0_2 a1_0 a1_1 l1_2 = some (r1, r2, r3)) :
  Calls Try.prog 26 #[.pointer (some ⟨g, 0, none⟩), .agg #[.int .i64 a1_0, .int .i64 a1_1, .slice A1_2 l1_2.length c1_2]] w fun e w' => e = .returned (.tuple #[.int .u8 r1, .int .i64 r2]) ∧ IsS67 w0 w' g s0_0 s0_1 r3 ∧ Below w0.heap.size w0 w' ∧ KeepBut w w' g none := by
 have hI0 := hI
 obtain ⟨A0, c0, A1, c1, hb, hg, ⟨w1_0, hr0, hb0⟩, ⟨w1_1, hr1, hb1⟩, hc0, hc1⟩ := hI
 obtain ⟨x, hx, hy_⟩ := Option.bind_eq_some_iff.mp h
 have hy_ := Option.some.inj hy_
 obtain ⟨y0, y1⟩ := x
 simp only [Prod.mk.injEq] at hy_
 obtain ⟨rfl, rfl, rfl⟩ := hy_
 refine (letter_reader_one_b.calls k _ _ _ _ _ _ _ _ _ _ _ _ _ _ _ w (Kd.C_below hr0 hb0) hc0 (Kd.C_below hr1 hb1) hc1 hr1_2 hc1_2 (by simpa using hb) hx).mono ?_
 rintro e w' ⟨rfl, bel⟩
 exact ⟨rfl, hI0.below bel, below_step hB bel, KeepBut.of_below bel g none⟩

end Go.Proofs.Ytmggeebpbacoiaa.PLetterOnes
