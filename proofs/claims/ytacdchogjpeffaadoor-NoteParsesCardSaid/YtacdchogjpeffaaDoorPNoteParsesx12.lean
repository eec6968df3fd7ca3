-- printed (wip/tools/myprint.py)
import Derived.Test.YtacdchogjpeffaaDoorPNoteParsesx0
import Derived.Test.YtacdchogjpeffaaDoorPNoteParsesx7
import Derived.Test.YtacdchogjpeffaaDoorPNoteParsesx8
import Derived.Test.YtacdchogjpeffaaDoorPNoteParsesx11
namespace Go.Proofs.YtacdchogjpeffaaDoor.PNoteParses
open Go.RowKit Go.Proofs.YtacdchogjpeffaaDoorW.PrintWords Go.Proofs.YtacdchogjpeffaaDoorW.PrintLast Go.Proofs.YtacdchogjpeffaaDoorW.PrintMore
attribute [local go_sem] max2_int min2_int max_two min_two max_three min_three max_four min_four
set_option linter.unusedVariables false
set_option linter.unusedSimpArgs false
mutual
def incunableref25_reader_one.l0 : Nat → ByteArray → Int → Bool → Int → ByteArray → Int → List (S33) → Option (Int × ByteArray × Int × (List (S33)) × ByteArray × Int × Bool)
 | 0, _, _, _, _, _, _, _ => none
 | k + 1, x1000, x1001, x1002, x165000, x165001, x165002, x165003 => if x1002 = true then (incunableref25_reader_one.j1 k false x1000 x1001 x1002 x165000 x165001 x165002 x165003) else (if x1001 < (x1000.size : Int) then (if 0 ≤ x1001 then (incunableref25_reader_one.j1 k ((bt x1000 x1001) != 41) x1000 x1001 x1002 x165000 x165001 x165002 x165003) else (none)) else (incunableref25_reader_one.j1 k false x1000 x1001 x1002 x165000 x165001 x165002 x165003))
def incunableref25_reader_one.j1 : Nat → Bool → ByteArray → Int → Bool → Int → ByteArray → Int → List (S33) → Option (Int × ByteArray × Int × (List (S33)) × ByteArray × Int × Bool)
 | 0, _, _, _, _, _, _, _, _ => none
 | k + 1, x80, x1000, x1001, x1002, x165000, x165001, x165002, x165003 => if x80 = true then ((incunableref25_reader_one.f k x1000 x1001 x1002).bind fun bt168 => (if x165003.length < 2513169434916 then ((incunableref25_reader_blank.f k bt168.2.2.2.2.1 bt168.2.2.2.2.2.1 bt168.2.2.2.2.2.2).bind fun bt180 => (incunableref25_reader_one.l0 k bt180.1 bt180.2.1 bt180.2.2 x165000 x165001 x165002 (x165003 ++ [(⟨bt168.1, bt168.2.1, bt168.2.2.1, bt168.2.2.2.1⟩ : S33)]))) else (none))) else (if x1002 = true then (some (x165000, x165001, x165002, x165003, x1000, wrap64 (x1001 + 1), true)) else (some (x165000, x165001, x165002, x165003, x1000, wrap64 (x1001 + 1), decide (x1001 ≥ (x1000.size : Int)))))
def incunableref25_reader_one.f : Nat → ByteArray → Int → Bool → Option (Int × ByteArray × Int × (List (S33)) × ByteArray × Int × Bool)
 | 0, _, _, _ => none
 | k + 1, s0_0, s0_1, s0_2 => if s0_1 ≥ (s0_0.size : Int) then (some (0, (⟨#[]⟩ : ByteArray), 0, ([] : List (S33)), s0_0, s0_1, true)) else (if 0 ≤ s0_1 then (if s0_1 < (s0_0.size : Int) then (if (bt s0_0 s0_1) = 34 then ((incunableref25_reader_text.f k s0_0 s0_1 s0_2).bind fun bt146 => (some (bt146.1, bt146.2.1, bt146.2.2.1, bt146.2.2.2.1, bt146.2.2.2.2.1, bt146.2.2.2.2.2.1, bt146.2.2.2.2.2.2))) else (if (bt s0_0 s0_1) = 40 then ((incunableref25_reader_blank.f k s0_0 (wrap64 (s0_1 + 1)) s0_2).bind fun bt165 => (incunableref25_reader_one.l0 k bt165.1 bt165.2.1 bt165.2.2 0 (⟨#[]⟩ : ByteArray) 0 ([] : List (S33)))) else ((incunableref25_reader_word.f k s0_0 s0_1 s0_2).bind fun bt155 => (some (bt155.1, bt155.2.1, bt155.2.2.1, bt155.2.2.2.1, bt155.2.2.2.2.1, bt155.2.2.2.2.2.1, bt155.2.2.2.2.2.2))))) else (none)) else (none))
end
theorem incunableref25_reader_one.mono_l : ∀ k, (∀ y0 y1 y2, LeO (incunableref25_reader_one.f k y0 y1 y2) (incunableref25_reader_one.f (k + 1) y0 y1 y2)) ∧ (∀ y0 y1 y2 y3 y4 y5 y6, LeO (incunableref25_reader_one.l0 k y0 y1 y2 y3 y4 y5 y6) (incunableref25_reader_one.l0 (k + 1) y0 y1 y2 y3 y4 y5 y6)) ∧ (∀ y0 y1 y2 y3 y4 y5 y6 y7, LeO (incunableref25_reader_one.j1 k y0 y1 y2 y3 y4 y5 y6 y7) (incunableref25_reader_one.j1 (k + 1) y0 y1 y2 y3 y4 y5 y6 y7))
 | 0 => ⟨fun _ _ _ r h => by simp [incunableref25_reader_one.f] at h, fun _ _ _ _ _ _ _ r h => by simp [incunableref25_reader_one.l0] at h, fun _ _ _ _ _ _ _ _ r h => by simp [incunableref25_reader_one.j1] at h⟩
 | k + 1 => by
  obtain ⟨ih0, ih1, ih2⟩ := incunableref25_reader_one.mono_l k
  refine ⟨?_, ?_, ?_⟩
  ·intro y0 y1 y2
   unfold incunableref25_reader_one.f
   repeat' first
   | (with_reducible exact ih0 _ _ _)
   | (with_reducible exact ih1 _ _ _ _ _ _ _)
   | (with_reducible exact ih2 _ _ _ _ _ _ _ _)
   | (with_reducible exact incunableref25_reader_blank.mono _ _ _ _)
   | (with_reducible exact incunableref25_reader_text.mono _ _ _ _)
   | (with_reducible exact incunableref25_reader_word.mono _ _ _ _)
   | (with_reducible first | exact LeO.refl _ | exact LeO.none _ | refine LeO.ite ?_ ?_ | refine LeO.bind ?_ (fun _ => ?_))
  ·intro y0 y1 y2 y3 y4 y5 y6
   unfold incunableref25_reader_one.l0
   repeat' first
   | (with_reducible exact ih0 _ _ _)
   | (with_reducible exact ih1 _ _ _ _ _ _ _)
   | (with_reducible exact ih2 _ _ _ _ _ _ _ _)
   | (with_reducible exact incunableref25_reader_blank.mono _ _ _ _)
   | (with_reducible exact incunableref25_reader_text.mono _ _ _ _)
   | (with_reducible exact incunableref25_reader_word.mono _ _ _ _)
   | (with_reducible first | exact LeO.refl _ | exact LeO.none _ | refine LeO.ite ?_ ?_ | refine LeO.bind ?_ (fun _ => ?_))
  ·intro y0 y1 y2 y3 y4 y5 y6 y7
   unfold incunableref25_reader_one.j1
   repeat' first
   | (with_reducible exact ih0 _ _ _)
   | (with_reducible exact ih1 _ _ _ _ _ _ _)
   | (with_reducible exact ih2 _ _ _ _ _ _ _ _)
   | (with_reducible exact incunableref25_reader_blank.mono _ _ _ _)
   | (with_reducible exact incunableref25_reader_text.mono _ _ _ _)
   | (with_reducible exact incunableref25_reader_word.mono _ _ _ _)
   | (with_reducible first | exact LeO.refl _ | exact LeO.none _ | refine LeO.ite ?_ ?_ | refine LeO.bind ?_ (fun _ => ?_))
theorem incunableref25_reader_one.mono : ∀ a0 a1 a2 k, LeO (incunableref25_reader_one.f k a0 a1 a2) (incunableref25_reader_one.f (k + 1) a0 a1 a2) := by
 intro a0 a1 a2 k
 obtain ⟨ih0, ih1, ih2⟩ := incunableref25_reader_one.mono_l k
 exact ih0 a0 a1 a2
def incunableref25_reader_one.T1 : Bool × List (List Nat × List Nat) := (true, [([], []), ([0], [0]), ([1], [1]), ([2], [2]), ([], []), ([4], [4]), ([5], [5]), ([6], [6]), ([7], [7]), ([3, 8], [3, 8])])
def incunableref25_reader_one.B1 : List Nat := [0, 1, 3, 7, 0, 16, 48, 112, 240, 511]
theorem incunableref25_reader_one.tab1 : rtab .any (opsOf Tryd.f65 1) = incunableref25_reader_one.T1 := by kernel_rfl
theorem incunableref25_reader_one.bits1 : waitsOk incunableref25_reader_one.T1.2 incunableref25_reader_one.B1 = true := by kernel_rfl
def incunableref25_reader_one.T4 : Bool × List (List Nat × List Nat) := (true, [([], []), ([0], [0]), ([1], [1]), ([2], [2]), ([], []), ([4], [4]), ([5], [5]), ([6], [6]), ([3, 7], [3, 7]), ([8], [8])])
def incunableref25_reader_one.B4 : List Nat := [0, 1, 3, 7, 0, 16, 48, 112, 255, 511]
theorem incunableref25_reader_one.tab4 : rtab .any (opsOf Tryd.f65 4) = incunableref25_reader_one.T4 := by kernel_rfl
theorem incunableref25_reader_one.bits4 : waitsOk incunableref25_reader_one.T4.2 incunableref25_reader_one.B4 = true := by kernel_rfl
def incunableref25_reader_one.T6 : Bool × List (List Nat × List Nat) := (true, [([], []), ([0], [0]), ([1], [1]), ([2], [2]), ([], []), ([4], [4]), ([5], [5]), ([6], [6]), ([3, 7], [3, 7]), ([8], [8])])
def incunableref25_reader_one.B6 : List Nat := [0, 1, 3, 7, 0, 16, 48, 112, 255, 511]
theorem incunableref25_reader_one.tab6 : rtab .any (opsOf Tryd.f65 6) = incunableref25_reader_one.T6 := by kernel_rfl
theorem incunableref25_reader_one.bits6 : waitsOk incunableref25_reader_one.T6.2 incunableref25_reader_one.B6 = true := by kernel_rfl
def incunableref25_reader_one.T11 : Bool × List (List Nat × List Nat) := (true, [([], []), ([0], [0]), ([1], [1]), ([2], [2]), ([3], [3]), ([4], [4]), ([5], [5]), ([6, 5], [5, 6]), ([7, 5], [5, 7]), ([8, 5], [5, 8]), ([5], [5]), ([10, 5], [5, 10]), ([11, 5], [5, 11]), ([12, 5], [5, 12]), ([13, 5], [5, 13]), ([9, 14, 5], [5, 9, 14]), ([5, 15], [5, 15]), ([16, 5], [16]), ([17], [17]), ([18, 17], [17, 18]), ([19, 17], [17, 19]), ([20, 17], [17, 20]), ([17], [17]), ([22, 17], [17, 22]), ([23, 17], [17, 23]), ([24, 17], [17, 24]), ([21, 25, 17], [17, 21, 25]), ([26, 17], [17, 26]), ([17, 27], [17, 27])])
def incunableref25_reader_one.B11 : List Nat := [0, 1, 3, 7, 15, 31, 63, 127, 255, 511, 63, 1087, 3135, 7231, 15423, 32767, 65535, 131071, 262143, 524287, 1048575, 2097151, 262143, 4456447, 12845055, 29622271, 67108863, 134217727, 268435455]
theorem incunableref25_reader_one.tab11 : rtab .any (opsOf Tryd.f65 11) = incunableref25_reader_one.T11 := by kernel_rfl
theorem incunableref25_reader_one.bits11 : waitsOk incunableref25_reader_one.T11.2 incunableref25_reader_one.B11 = true := by kernel_rfl
def incunableref25_reader_one.T12 : Bool × List (List Nat × List Nat) := (true, [([], []), ([0], [0]), ([], []), ([2], [2]), ([3], [3]), ([1, 4, 3], [1, 4]), ([0, 1, 2, 3, 4, 5], []), ([6, 5, 5, 0, 1, 2, 3, 4, 5], [5, 6])])
def incunableref25_reader_one.B12 : List Nat := [0, 1, 0, 4, 12, 31, 63, 127]
theorem incunableref25_reader_one.tab12 : rtab .any (opsOf Tryd.f65 12) = incunableref25_reader_one.T12 := by kernel_rfl
theorem incunableref25_reader_one.bits12 : waitsOk incunableref25_reader_one.T12.2 incunableref25_reader_one.B12 = true := by kernel_rfl
def incunableref25_reader_one.T14 : Bool × List (List Nat × List Nat) := (true, [([], []), ([], []), ([1], [1]), ([2], [2]), ([3], [3]), ([4], [4]), ([5], [5]), ([6, 5], [5, 6]), ([7, 5], [5, 7]), ([8, 5], [5, 8]), ([5], [5]), ([10, 5], [5, 10]), ([11, 5], [5, 11]), ([12, 5], [5, 12]), ([13, 5], [5, 13]), ([9, 14, 5], [5, 9, 14]), ([5, 15], [5, 15]), ([0, 0, 1, 2, 3, 4, 5, 6, 7, 8, 9, 10, 11, 12, 13, 14, 15, 16], [0]), ([17, 0, 1, 2, 3, 4, 5, 6, 7, 8, 9, 10, 11, 12, 13, 14, 15, 16], [17]), ([18, 16, 5, 0, 1, 2, 3, 4, 5, 6, 7, 8, 9, 10, 11, 12, 13, 14, 15, 16], [16, 18])])
def incunableref25_reader_one.B14 : List Nat := [0, 0, 2, 6, 14, 30, 62, 126, 254, 510, 62, 1086, 3134, 7230, 15422, 32766, 65534, 131071, 262143, 524287]
theorem incunableref25_reader_one.tab14 : rtab .any (opsOf Tryd.f65 14) = incunableref25_reader_one.T14 := by kernel_rfl
theorem incunableref25_reader_one.bits14 : waitsOk incunableref25_reader_one.T14.2 incunableref25_reader_one.B14 = true := by kernel_rfl
set_option maxHeartbeats 8000000 in
set_option maxRecDepth 100000 in
theorem incunableref25_reader_one.calls (k : Nat) : ∀ (g : Nat) (s0_0 : ByteArray) (s0_1 : Int) (s0_2 : Bool) (r1 : Int) (r2 : ByteArray) (r3 : Int) (r4 : List (S33)) (r5 : ByteArray) (r6 : Int) (r7 : Bool) (w0 w : World) (hI : IsS96 w0 w g s0_0 s0_1 s0_2) (hB : Below w0.heap.size w0 w) (h : incunableref25_reader_one.f k s0_0 s0_1 s0_2 = some (r1, r2, r3, r4, r5, r6, r7)),
  Calls Tryd.prog 65 #[.pointer (some ⟨g, 0, none⟩)] w fun e w' => ∃ v3_ : Value, e = .returned (.agg #[.int .i64 r1, .string r2, .int .i64 r3, v3_]) ∧ Kd.R k33 33 w' w.heap.size (fun _ => True) v3_ r4 ∧ IsS96 w0 w' g r5 r6 r7 ∧ Below w0.heap.size w0 w' ∧ KeepBut w w' g none := by
 induction k using Nat.strongRecOn with
 | _ k ih =>
 intro g s0_0 s0_1 s0_2 r1 r2 r3 r4 r5 r6 r7 w0 w hI hB h
 cases k with
 | zero => exact absurd h (by simp [incunableref25_reader_one.f])
 | succ k =>
 simp only [incunableref25_reader_one.f] at h
 have hu33 := Tryd.underlying33
 have HI0 := Aside0.mk hI
 have HK := Aside0.mk (KeepBut.refl w g none)
 have HL := Aside0.mk hB.size
 clear hI
 have HW0 := Aside0.mk hB.size
 have HB := Aside0.mk hB
 clear hB
 have H := h
 unfold incunableref25_reader_one.f at H
 clear h
 rcases iL H with H1 | H1 <;> clear H <;> obtain ⟨H, c2b0⟩ := H1
 ·simp only [Option.some.injEq, Prod.mk.injEq] at H
  obtain ⟨rfl, rfl, rfl, rfl, rfl, rfl, rfl⟩ := H
  go_enter Tryd.func65, Tryd.ntmps65
  try go_wp2_with (first | ((with_reducible refine gd 2 rfl ?_); (try (refine gate_guard (by rfl) ?_; dsimp only)); refine bx 2 #[.int .i64 0, .string (⟨#[]⟩ : ByteArray), .int .i64 0, .slice none 0 0] 33 rfl rfl ?_; intro gb145 hg w3 hbox hb; have n_ := aC (IsS96.below (by repeat (first | (with_reducible first | exact HI0.out | apply IsS96.alloc | apply IsS96.drewN | apply IsS96.drew | apply IsS96.set_0 | apply IsS96.set_1 | apply IsS96.set_2) | exact HI0.out)) hb) (aC (KeepBut.trans (by repeat (first | (with_reducible first | exact HK.out | apply KeepBut.set_ | apply keep_drewN | apply keep_drew | apply keep_alloc) | exact HK.out)) (KeepBut.of_below hb g none) (.inl rfl)) (aC (below_step (by repeat (first | (with_reducible first | exact HB.out | apply below_alloc | apply pw_below_drewN | apply below_drew1 | refine below_set ?_ (IsS96.ge HI0.out)) | exact HB.out)) hb) (aC hbox (aC ((by rw [hg]; exact (keep_size (w := w) (g := g) (row := none) (by repeat (first | (with_reducible first | exact HK.out | apply KeepBut.set_ | apply keep_drewN | apply keep_drew | apply keep_alloc) | exact HK.out))) : w.heap.size ≤ gb145)) (aC ((Nat.le_trans HW0.out (by rw [hg]; exact (keep_size (w := w) (g := g) (row := none) (by repeat (first | (with_reducible first | exact HK.out | apply KeepBut.set_ | apply keep_drewN | apply keep_drew | apply keep_alloc) | exact HK.out))) : w.heap.size ≤ gb145) : w0.heap.size ≤ gb145)) (aC ((by rw [hg]; exact Nat.ne_of_lt (IsS96.lt (show IsS96 w0 _ g s0_0 s0_1 s0_2 from by repeat (first | (with_reducible first | exact HI0.out | apply IsS96.alloc | apply IsS96.drewN | apply IsS96.drew | apply IsS96.set_0 | apply IsS96.set_1 | apply IsS96.set_2) | exact HI0.out))) : g ≠ gb145)) (aE ((by rw [hg]; exact Nat.ne_of_gt (IsS96.lt (show IsS96 w0 _ g s0_0 s0_1 s0_2 from by repeat (first | (with_reducible first | exact HI0.out | apply IsS96.alloc | apply IsS96.drewN | apply IsS96.drew | apply IsS96.set_0 | apply IsS96.set_1 | apply IsS96.set_2) | exact HI0.out))) : gb145 ≠ g))))))))); clear HI0 HK HB; obtain ⟨HI0, HK, HB, BK145, GW145, GE145, NB0_145, NB145_0⟩ := n_; clear hb hbox hg))
  have n_ := aC (blk_drew BK145.out) (aC (IsS96.drew HI0.out) (aC (keep_drew HK.out) (aE (below_drew1 HB.out))))
  clear BK145 HI0 HK HB
  obtain ⟨BK145, HI0, HK, HB⟩ := n_
  refine st 10 (fun w' => w'.cell? ⟨g, 0, none⟩ = some (.string s0_0) ∧ w'.cell? ⟨g, 1, none⟩ = some (.int .i64 s0_1) ∧ w'.cell? ⟨g, 2, none⟩ = some (.bool s0_2)) [] (bv 10 0) incunableref25_reader_one.tab1 incunableref25_reader_one.bits1 ⟨(blk_cell (Aside0.mk HI0.out.1).out 0).trans rfl, (blk_cell (Aside0.mk HI0.out.1).out 1).trans rfl, (blk_cell (Aside0.mk HI0.out.1).out 2).trans rfl⟩ (fun hHeld HT_ HW_ => ?_)
  generalize w3.drew = w4 at BK145 HI0 HK HB hHeld ⊢
  refine pu 0 4 (bv 10 1) HT_ rfl rfl ?_
  refine pu 1 5 (bv 10 3) HT_ rfl rfl ?_
  refine pu 2 6 (bv 10 7) HT_ rfl rfl ?_
  refine pu 4 8 (bv 10 23) HT_ rfl rfl ?_
  refine pu 5 9 (bv 10 55) HT_ rfl rfl ?_
  refine pu 6 10 (bv 10 119) HT_ rfl rfl ?_
  refine tk 3 7 (bv 10 127) HT_ HW_ hHeld rfl rfl (by rintro w' ⟨s0, s1, s2⟩; exact yl) ?_
  refine tk 7 11 (bv 10 255) HT_ HW_ hHeld rfl rfl (by rintro w' ⟨s0, s1, s2⟩; exact yl) ?_
  refine pu 8 12 (bv 10 511) HT_ rfl rfl ?_
  refine pu 9 13 (bv 10 1023) HT_ rfl rfl ?_
  refine done_ (done_of HT_.out (by kernel_rfl)) ?_
  obtain ⟨HGz5, hgz5⟩ := HI0.out
  have hcz5_0 := cellS96_0 HGz5
  have hcz5_1 := cellS96_1 HGz5
  have hcz5_2 := cellS96_2 HGz5
  have hfz5_0 := blk_frozen HGz5 0
  have hfz5_1 := blk_frozen HGz5 1
  have hfz5_2 := blk_frozen HGz5 2
  clear HGz5 hgz5
  have hnb6 := NB145_0.out
  have hnc6 := NB0_145.out
  obtain ⟨hcz7_0, hcz7_1, hcz7_2, hcz7_3, hfz7_0, hfz7_1, hfz7_2, hfz7_3⟩ := cz4f BK145.out
  try go_wp2
  refine bodyPost_ret (results_cell_row rfl _ _ gb145 33 #[.int .i64 0, .string (⟨#[]⟩ : ByteArray), .int .i64 0, .slice none 0 0] (0, 0) _ rfl (by (with_reducible repeat (first | refine blk_drewN ?_ _ | refine blk_drew ?_ | refine blk_alloc ?_ _)); refine blk_put (cs := #[.int .i64 0, .string (⟨#[]⟩ : ByteArray), .int .i64 0, .slice none 0 0]) ?_ 3 _ rfl; (with_reducible repeat (first | refine blk_drewN ?_ _ | refine blk_drew ?_ | refine blk_alloc ?_ _)); refine blk_put (cs := #[.int .i64 0, .string (⟨#[]⟩ : ByteArray), .int .i64 0, .slice none 0 0]) ?_ 2 _ rfl; (with_reducible repeat (first | refine blk_drewN ?_ _ | refine blk_drew ?_ | refine blk_alloc ?_ _)); refine blk_put (cs := #[.int .i64 0, .string (⟨#[]⟩ : ByteArray), .int .i64 0, .slice none 0 0]) ?_ 1 _ rfl; (with_reducible repeat (first | refine blk_drewN ?_ _ | refine blk_drew ?_ | refine blk_alloc ?_ _)); refine blk_put (cs := #[.int .i64 0, .string (⟨#[]⟩ : ByteArray), .int .i64 0, .slice none 0 0]) ?_ 0 _ rfl; (with_reducible repeat (first | refine blk_drewN ?_ _ | refine blk_drew ?_ | refine blk_alloc ?_ _)); refine blk_far ?_ NB145_0.out _; (with_reducible repeat (first | refine blk_drewN ?_ _ | refine blk_drew ?_ | refine blk_alloc ?_ _)); exact BK145.out) Tryd.underlying33 rfl (by kernel_rfl)) rfl ?_
  exact ⟨_, re, by first | exact Kd.R_nil _ _ _ _ _ | exact Kd.N_nil _ _ _ _ _ | exact Kd.V_nil _ _ _ _ _ | exact Kd.Q_nil _ _ _ _ _ | exact Kd.S_nil _ _ _ _ _, by repeat (first | (with_reducible first | exact HI0.out | apply IsS96.alloc | apply IsS96.drewN | apply IsS96.drew | apply IsS96.set_0 | apply IsS96.set_1 | apply IsS96.set_2 | refine IsS96.far ?_ NB0_145.out _) | exact HI0.out), by repeat (first | (with_reducible first | exact HB.out | apply below_alloc | apply pw_below_drewN | apply below_drew1 | refine below_set ?_ (IsS96.ge HI0.out) | refine below_set ?_ GE145.out) | exact HB.out), by repeat (first | (with_reducible first | exact HK.out | apply KeepBut.set_ | apply keep_drewN | apply keep_drew | apply keep_alloc | refine keep_far ?_ GW145.out _) | exact HK.out)⟩
 ·by_cases c8 : 0 ≤ s0_1
  ·rw [if_pos c8] at H
   have c8b0 := decide_eq_true c8
   clear c8
   by_cases c9 : s0_1 < (s0_0.size : Int)
   ·rw [if_pos c9] at H
    have c9b0 := decide_eq_true c9
    clear c9
    rcases iE H with H1 | H1 <;> clear H <;> obtain ⟨H, c11b0, c11b1, c11⟩ := H1
    ·obtain ⟨⟨t146, t147, t148, t149, t152, t153, t154⟩, A12, H⟩ := oB H
     try dsimp only at H
     simp only [Option.some.injEq, Prod.mk.injEq] at H
     obtain ⟨rfl, rfl, rfl, rfl, rfl, rfl, rfl⟩ := H
     go_enter Tryd.func65, Tryd.ntmps65
     try go_wp2_with (first | ((with_reducible refine gd 2 rfl ?_); (try (refine gate_guard (by rfl) ?_; dsimp only)); refine bx 2 #[.int .i64 0, .string (⟨#[]⟩ : ByteArray), .int .i64 0, .slice none 0 0] 33 rfl rfl ?_; intro gb145 hg w13 hbox hb; have n_ := aC (IsS96.below (by repeat (first | (with_reducible first | exact HI0.out | apply IsS96.alloc | apply IsS96.drewN | apply IsS96.drew | apply IsS96.set_0 | apply IsS96.set_1 | apply IsS96.set_2) | exact HI0.out)) hb) (aC (KeepBut.trans (by repeat (first | (with_reducible first | exact HK.out | apply KeepBut.set_ | apply keep_drewN | apply keep_drew | apply keep_alloc) | exact HK.out)) (KeepBut.of_below hb g none) (.inl rfl)) (aC (below_step (by repeat (first | (with_reducible first | exact HB.out | apply below_alloc | apply pw_below_drewN | apply below_drew1 | refine below_set ?_ (IsS96.ge HI0.out)) | exact HB.out)) hb) (aC hbox (aC ((by rw [hg]; exact (keep_size (w := w) (g := g) (row := none) (by repeat (first | (with_reducible first | exact HK.out | apply KeepBut.set_ | apply keep_drewN | apply keep_drew | apply keep_alloc) | exact HK.out))) : w.heap.size ≤ gb145)) (aC ((Nat.le_trans HW0.out (by rw [hg]; exact (keep_size (w := w) (g := g) (row := none) (by repeat (first | (with_reducible first | exact HK.out | apply KeepBut.set_ | apply keep_drewN | apply keep_drew | apply keep_alloc) | exact HK.out))) : w.heap.size ≤ gb145) : w0.heap.size ≤ gb145)) (aC ((by rw [hg]; exact Nat.ne_of_lt (IsS96.lt (show IsS96 w0 _ g s0_0 s0_1 s0_2 from by repeat (first | (with_reducible first | exact HI0.out | apply IsS96.alloc | apply IsS96.drewN | apply IsS96.drew | apply IsS96.set_0 | apply IsS96.set_1 | apply IsS96.set_2) | exact HI0.out))) : g ≠ gb145)) (aE ((by rw [hg]; exact Nat.ne_of_gt (IsS96.lt (show IsS96 w0 _ g s0_0 s0_1 s0_2 from by repeat (first | (with_reducible first | exact HI0.out | apply IsS96.alloc | apply IsS96.drewN | apply IsS96.drew | apply IsS96.set_0 | apply IsS96.set_1 | apply IsS96.set_2) | exact HI0.out))) : gb145 ≠ g))))))))); clear HI0 HK HB; obtain ⟨HI0, HK, HB, BK145, GW145, GE145, NB0_145, NB145_0⟩ := n_; clear hb hbox hg))
     have n_ := aC (blk_drew BK145.out) (aC (IsS96.drew HI0.out) (aC (keep_drew HK.out) (aE (below_drew1 HB.out))))
     clear BK145 HI0 HK HB
     obtain ⟨BK145, HI0, HK, HB⟩ := n_
     refine st 10 (fun w' => w'.cell? ⟨g, 0, none⟩ = some (.string s0_0) ∧ w'.cell? ⟨g, 1, none⟩ = some (.int .i64 s0_1) ∧ w'.cell? ⟨g, 2, none⟩ = some (.bool s0_2)) [] (bv 10 0) incunableref25_reader_one.tab1 incunableref25_reader_one.bits1 ⟨(blk_cell (Aside0.mk HI0.out.1).out 0).trans rfl, (blk_cell (Aside0.mk HI0.out.1).out 1).trans rfl, (blk_cell (Aside0.mk HI0.out.1).out 2).trans rfl⟩ (fun hHeld HT_ HW_ => ?_)
     generalize w13.drew = w14 at BK145 HI0 HK HB hHeld ⊢
     refine pu 0 4 (bv 10 1) HT_ rfl rfl ?_
     refine pu 1 5 (bv 10 3) HT_ rfl rfl ?_
     refine pu 2 6 (bv 10 7) HT_ rfl rfl ?_
     refine pu 4 8 (bv 10 23) HT_ rfl rfl ?_
     refine pu 5 9 (bv 10 55) HT_ rfl rfl ?_
     refine pu 6 10 (bv 10 119) HT_ rfl rfl ?_
     refine tk 3 7 (bv 10 127) HT_ HW_ hHeld rfl rfl (by rintro w' ⟨s0, s1, s2⟩; exact yl) ?_
     refine tk 7 11 (bv 10 255) HT_ HW_ hHeld rfl rfl (by rintro w' ⟨s0, s1, s2⟩; exact yl) ?_
     refine pu 8 12 (bv 10 511) HT_ rfl rfl ?_
     refine pu 9 13 (bv 10 1023) HT_ rfl rfl ?_
     refine done_ (done_of HT_.out (by kernel_rfl)) ?_
     try go_wp2
     have n_ := aC (blk_drew BK145.out) (aC (IsS96.drew HI0.out) (aC (keep_drew HK.out) (aE (below_drew1 HB.out))))
     clear BK145 HI0 HK HB
     obtain ⟨BK145, HI0, HK, HB⟩ := n_
     have p10 : 0 ≤ (s0_1 : Int) := dt
     have q10 : s0_1 < (s0_0.size : Int) := dt
     have hx10 := bt_at s0_0 s0_1
     replace p10 := eq_true p10
     replace q10 := eq_true q10
     refine st 10 (fun w' => w'.cell? ⟨g, 0, none⟩ = some (.string s0_0) ∧ w'.cell? ⟨g, 1, none⟩ = some (.int .i64 s0_1) ∧ w'.cell? ⟨g, 2, none⟩ = some (.bool s0_2)) [] (bv 10 0) incunableref25_reader_one.tab4 incunableref25_reader_one.bits4 ⟨(blk_cell (Aside0.mk HI0.out.1).out 0).trans rfl, (blk_cell (Aside0.mk HI0.out.1).out 1).trans rfl, (blk_cell (Aside0.mk HI0.out.1).out 2).trans rfl⟩ (fun hHeld HT_ HW_ => ?_)
     generalize w14.drew = w15 at BK145 HI0 HK HB hHeld ⊢
     refine pu 0 18 (bv 10 1) HT_ rfl rfl ?_
     refine pu 1 19 (bv 10 3) HT_ rfl rfl ?_
     refine pu 2 20 (bv 10 7) HT_ rfl rfl ?_
     refine pu 4 22 (bv 10 23) HT_ rfl rfl ?_
     refine pu 5 23 (bv 10 55) HT_ rfl rfl ?_
     refine pu 6 24 (bv 10 119) HT_ rfl rfl ?_
     refine tk 3 21 (bv 10 127) HT_ HW_ hHeld rfl rfl (by rintro w' ⟨s0, s1, s2⟩; exact yl) ?_
     refine tk 7 25 (bv 10 255) HT_ HW_ hHeld rfl rfl (by rintro w' ⟨s0, s1, s2⟩; exact yl) ?_
     refine tk 8 26 (bv 10 511) HT_ HW_ hHeld rfl rfl (by rintro w' ⟨s0, s1, s2⟩; exact yl) ?_
     refine pu 9 27 (bv 10 1023) HT_ rfl rfl ?_
     refine done_ (done_of HT_.out (by kernel_rfl)) ?_
     try go_wp2_with (first | (refine gF 88 29 Tryd.func88 #[.pointer (some ⟨g, 0, none⟩)] rfl rfl ?_; (with_reducible refine (incunableref25_reader_text.calls k g s0_0 s0_1 s0_2 t146 t147 t148 t149 t152 t153 t154 w0 _ ?side1 ?side2 A12.out).mono ?_); (case side1 => repeat (first | (with_reducible first | exact HI0.out | apply IsS96.alloc | apply IsS96.drewN | apply IsS96.drew | apply IsS96.set_0 | apply IsS96.set_1 | apply IsS96.set_2 | refine IsS96.far ?_ NB0_145.out _) | exact HI0.out)); (case side2 => repeat (first | (with_reducible first | exact HB.out | apply below_alloc | apply pw_below_drewN | apply below_drew1 | refine below_set ?_ (IsS96.ge HI0.out) | refine below_set ?_ GE145.out) | exact HB.out)); rintro e w16 ⟨v150, rfl, ho0, hi, hb, hk⟩; refine ⟨_, rfl, ?_⟩; have n_ := aC (KeepBut.blk hk (g' := gb145) (o := .cells #[.int .i64 0, .string (⟨#[]⟩ : ByteArray), .int .i64 0, .slice none 0 0] 33 (0, 0)) (bU BK145.out) NB145_0.out (by simp)) (aC (Kd.R_lower (Kd.R_newB ho0 (bU BK145.out)) (keep_size (w := w) (g := g) (row := none) (by repeat (first | (with_reducible first | exact HK.out | apply KeepBut.set_ | apply keep_drewN | apply keep_drew | apply keep_alloc | refine keep_far ?_ GW145.out _) | exact HK.out)))) (aC (KeepBut.trans (by repeat (first | (with_reducible first | exact HK.out | apply KeepBut.set_ | apply keep_drewN | apply keep_drew | apply keep_alloc | refine keep_far ?_ GW145.out _) | exact HK.out)) hk (.inl rfl)) (aC hb (aE hi)))); clear BK145 HK HB HI0; obtain ⟨BK145, HO151, HK, HB, HI0⟩ := n_; have hnb17 := NB145_0.out; have hnc17 := NB0_145.out; obtain ⟨hcz18_0, hcz18_1, hcz18_2, hcz18_3, hfz18_0, hfz18_1, hfz18_2, hfz18_3⟩ := cz4f BK145.out; obtain ⟨Ao19, co19, eo19⟩ := Kd.R_slice HO151.out; subst eo19))
     refine bodyPost_ret (results_cell_row rfl _ _ gb145 33 #[.int .i64 t146, .string t147, .int .i64 t148, .slice Ao19 t149.length co19] (0, 0) _ rfl (by (with_reducible repeat (first | refine blk_drewN ?_ _ | refine blk_drew ?_ | refine blk_alloc ?_ _)); refine blk_put (cs := #[.int .i64 t146, .string t147, .int .i64 t148, .slice none 0 0]) ?_ 3 _ rfl; (with_reducible repeat (first | refine blk_drewN ?_ _ | refine blk_drew ?_ | refine blk_alloc ?_ _)); refine blk_put (cs := #[.int .i64 t146, .string t147, .int .i64 0, .slice none 0 0]) ?_ 2 _ rfl; (with_reducible repeat (first | refine blk_drewN ?_ _ | refine blk_drew ?_ | refine blk_alloc ?_ _)); refine blk_put (cs := #[.int .i64 t146, .string (⟨#[]⟩ : ByteArray), .int .i64 0, .slice none 0 0]) ?_ 1 _ rfl; (with_reducible repeat (first | refine blk_drewN ?_ _ | refine blk_drew ?_ | refine blk_alloc ?_ _)); refine blk_put (cs := #[.int .i64 0, .string (⟨#[]⟩ : ByteArray), .int .i64 0, .slice none 0 0]) ?_ 0 _ rfl; (with_reducible repeat (first | refine blk_drewN ?_ _ | refine blk_drew ?_ | refine blk_alloc ?_ _)); exact BK145.out) Tryd.underlying33 rfl (by kernel_rfl)) rfl ?_
     exact ⟨_, re, rU (Kd.R_mono (Kd.R_far (p := ⟨gb145, 3, none⟩) (Kd.R_far (p := ⟨gb145, 2, none⟩) (Kd.R_far (p := ⟨gb145, 1, none⟩) (Kd.R_far (p := ⟨gb145, 0, none⟩) (Kd.R_mono HO151.out (fun k_ hk => (⟨hk, hk.2⟩ : _ ∧ k_ ≠ gb145))) (fun _ hk => hk.2) (.int .i64 t146)) (fun _ hk => hk.2) (.string t147)) (fun _ hk => hk.2) (.int .i64 t148)) (fun _ hk => hk.2) (.slice Ao19 t149.length co19)) (fun _ hk => trivial)), by repeat (first | (with_reducible first | exact HI0.out | apply IsS96.alloc | apply IsS96.drewN | apply IsS96.drew | apply IsS96.set_0 | apply IsS96.set_1 | apply IsS96.set_2 | refine IsS96.far ?_ NB0_145.out _) | exact HI0.out), by repeat (first | (with_reducible first | exact HB.out | apply below_alloc | apply pw_below_drewN | apply below_drew1 | refine below_set ?_ (IsS96.ge HI0.out) | refine below_set ?_ GE145.out) | exact HB.out), by repeat (first | (with_reducible first | exact HK.out | apply KeepBut.set_ | apply keep_drewN | apply keep_drew | apply keep_alloc | refine keep_far ?_ GW145.out _) | exact HK.out)⟩
    ·rcases iE H with H1 | H1 <;> clear H <;> obtain ⟨H, c21b0, c21b1, c21⟩ := H1
     ·obtain ⟨⟨t165, t166, t167⟩, A22, H⟩ := oB H
      try dsimp only at H
      have H' := Aside0.mk H
      clear H
      go_enter Tryd.func65, Tryd.ntmps65
      try go_wp2_with (first | ((with_reducible refine gd 2 rfl ?_); (try (refine gate_guard (by rfl) ?_; dsimp only)); refine bx 2 #[.int .i64 0, .string (⟨#[]⟩ : ByteArray), .int .i64 0, .slice none 0 0] 33 rfl rfl ?_; intro gb145 hg w23 hbox hb; have n_ := aC (IsS96.below (by repeat (first | (with_reducible first | exact HI0.out | apply IsS96.alloc | apply IsS96.drewN | apply IsS96.drew | apply IsS96.set_0 | apply IsS96.set_1 | apply IsS96.set_2) | exact HI0.out)) hb) (aC (KeepBut.trans (by repeat (first | (with_reducible first | exact HK.out | apply KeepBut.set_ | apply keep_drewN | apply keep_drew | apply keep_alloc) | exact HK.out)) (KeepBut.of_below hb g none) (.inl rfl)) (aC (below_step (by repeat (first | (with_reducible first | exact HB.out | apply below_alloc | apply pw_below_drewN | apply below_drew1 | refine below_set ?_ (IsS96.ge HI0.out)) | exact HB.out)) hb) (aC hbox (aC ((by rw [hg]; exact (keep_size (w := w) (g := g) (row := none) (by repeat (first | (with_reducible first | exact HK.out | apply KeepBut.set_ | apply keep_drewN | apply keep_drew | apply keep_alloc) | exact HK.out))) : w.heap.size ≤ gb145)) (aC ((Nat.le_trans HW0.out (by rw [hg]; exact (keep_size (w := w) (g := g) (row := none) (by repeat (first | (with_reducible first | exact HK.out | apply KeepBut.set_ | apply keep_drewN | apply keep_drew | apply keep_alloc) | exact HK.out))) : w.heap.size ≤ gb145) : w0.heap.size ≤ gb145)) (aC ((by rw [hg]; exact Nat.ne_of_lt (IsS96.lt (show IsS96 w0 _ g s0_0 s0_1 s0_2 from by repeat (first | (with_reducible first | exact HI0.out | apply IsS96.alloc | apply IsS96.drewN | apply IsS96.drew | apply IsS96.set_0 | apply IsS96.set_1 | apply IsS96.set_2) | exact HI0.out))) : g ≠ gb145)) (aE ((by rw [hg]; exact Nat.ne_of_gt (IsS96.lt (show IsS96 w0 _ g s0_0 s0_1 s0_2 from by repeat (first | (with_reducible first | exact HI0.out | apply IsS96.alloc | apply IsS96.drewN | apply IsS96.drew | apply IsS96.set_0 | apply IsS96.set_1 | apply IsS96.set_2) | exact HI0.out))) : gb145 ≠ g))))))))); clear HI0 HK HB; obtain ⟨HI0, HK, HB, BK145, GW145, GE145, NB0_145, NB145_0⟩ := n_; clear hb hbox hg))
      have n_ := aC (blk_drew BK145.out) (aC (IsS96.drew HI0.out) (aC (keep_drew HK.out) (aE (below_drew1 HB.out))))
      clear BK145 HI0 HK HB
      obtain ⟨BK145, HI0, HK, HB⟩ := n_
      refine st 10 (fun w' => w'.cell? ⟨g, 0, none⟩ = some (.string s0_0) ∧ w'.cell? ⟨g, 1, none⟩ = some (.int .i64 s0_1) ∧ w'.cell? ⟨g, 2, none⟩ = some (.bool s0_2)) [] (bv 10 0) incunableref25_reader_one.tab1 incunableref25_reader_one.bits1 ⟨(blk_cell (Aside0.mk HI0.out.1).out 0).trans rfl, (blk_cell (Aside0.mk HI0.out.1).out 1).trans rfl, (blk_cell (Aside0.mk HI0.out.1).out 2).trans rfl⟩ (fun hHeld HT_ HW_ => ?_)
      generalize w23.drew = w24 at BK145 HI0 HK HB hHeld ⊢
      refine pu 0 4 (bv 10 1) HT_ rfl rfl ?_
      refine pu 1 5 (bv 10 3) HT_ rfl rfl ?_
      refine pu 2 6 (bv 10 7) HT_ rfl rfl ?_
      refine pu 4 8 (bv 10 23) HT_ rfl rfl ?_
      refine pu 5 9 (bv 10 55) HT_ rfl rfl ?_
      refine pu 6 10 (bv 10 119) HT_ rfl rfl ?_
      refine tk 3 7 (bv 10 127) HT_ HW_ hHeld rfl rfl (by rintro w' ⟨s0, s1, s2⟩; exact yl) ?_
      refine tk 7 11 (bv 10 255) HT_ HW_ hHeld rfl rfl (by rintro w' ⟨s0, s1, s2⟩; exact yl) ?_
      refine pu 8 12 (bv 10 511) HT_ rfl rfl ?_
      refine pu 9 13 (bv 10 1023) HT_ rfl rfl ?_
      refine done_ (done_of HT_.out (by kernel_rfl)) ?_
      try go_wp2
      have n_ := aC (blk_drew BK145.out) (aC (IsS96.drew HI0.out) (aC (keep_drew HK.out) (aE (below_drew1 HB.out))))
      clear BK145 HI0 HK HB
      obtain ⟨BK145, HI0, HK, HB⟩ := n_
      have p10 : 0 ≤ (s0_1 : Int) := dt
      have q10 : s0_1 < (s0_0.size : Int) := dt
      have hx10 := bt_at s0_0 s0_1
      replace p10 := eq_true p10
      replace q10 := eq_true q10
      refine st 10 (fun w' => w'.cell? ⟨g, 0, none⟩ = some (.string s0_0) ∧ w'.cell? ⟨g, 1, none⟩ = some (.int .i64 s0_1) ∧ w'.cell? ⟨g, 2, none⟩ = some (.bool s0_2)) [] (bv 10 0) incunableref25_reader_one.tab4 incunableref25_reader_one.bits4 ⟨(blk_cell (Aside0.mk HI0.out.1).out 0).trans rfl, (blk_cell (Aside0.mk HI0.out.1).out 1).trans rfl, (blk_cell (Aside0.mk HI0.out.1).out 2).trans rfl⟩ (fun hHeld HT_ HW_ => ?_)
      generalize w24.drew = w25 at BK145 HI0 HK HB hHeld ⊢
      refine pu 0 18 (bv 10 1) HT_ rfl rfl ?_
      refine pu 1 19 (bv 10 3) HT_ rfl rfl ?_
      refine pu 2 20 (bv 10 7) HT_ rfl rfl ?_
      refine pu 4 22 (bv 10 23) HT_ rfl rfl ?_
      refine pu 5 23 (bv 10 55) HT_ rfl rfl ?_
      refine pu 6 24 (bv 10 119) HT_ rfl rfl ?_
      refine tk 3 21 (bv 10 127) HT_ HW_ hHeld rfl rfl (by rintro w' ⟨s0, s1, s2⟩; exact yl) ?_
      refine tk 7 25 (bv 10 255) HT_ HW_ hHeld rfl rfl (by rintro w' ⟨s0, s1, s2⟩; exact yl) ?_
      refine tk 8 26 (bv 10 511) HT_ HW_ hHeld rfl rfl (by rintro w' ⟨s0, s1, s2⟩; exact yl) ?_
      refine pu 9 27 (bv 10 1023) HT_ rfl rfl ?_
      refine done_ (done_of HT_.out (by kernel_rfl)) ?_
      try go_wp2
      have n_ := aC (blk_drew BK145.out) (aC (IsS96.drew HI0.out) (aC (keep_drew HK.out) (aE (below_drew1 HB.out))))
      clear BK145 HI0 HK HB
      obtain ⟨BK145, HI0, HK, HB⟩ := n_
      have p20 : 0 ≤ (s0_1 : Int) := dt
      have q20 : s0_1 < (s0_0.size : Int) := dt
      have hx20 := bt_at s0_0 s0_1
      replace p20 := eq_true p20
      replace q20 := eq_true q20
      refine st 10 (fun w' => w'.cell? ⟨g, 0, none⟩ = some (.string s0_0) ∧ w'.cell? ⟨g, 1, none⟩ = some (.int .i64 s0_1) ∧ w'.cell? ⟨g, 2, none⟩ = some (.bool s0_2)) [] (bv 10 0) incunableref25_reader_one.tab6 incunableref25_reader_one.bits6 ⟨(blk_cell (Aside0.mk HI0.out.1).out 0).trans rfl, (blk_cell (Aside0.mk HI0.out.1).out 1).trans rfl, (blk_cell (Aside0.mk HI0.out.1).out 2).trans rfl⟩ (fun hHeld HT_ HW_ => ?_)
      generalize w25.drew = w26 at BK145 HI0 HK HB hHeld ⊢
      refine pu 0 30 (bv 10 1) HT_ rfl rfl ?_
      refine pu 1 31 (bv 10 3) HT_ rfl rfl ?_
      refine pu 2 32 (bv 10 7) HT_ rfl rfl ?_
      refine pu 4 34 (bv 10 23) HT_ rfl rfl ?_
      refine pu 5 35 (bv 10 55) HT_ rfl rfl ?_
      refine pu 6 36 (bv 10 119) HT_ rfl rfl ?_
      refine tk 3 33 (bv 10 127) HT_ HW_ hHeld rfl rfl (by rintro w' ⟨s0, s1, s2⟩; exact yl) ?_
      refine tk 7 37 (bv 10 255) HT_ HW_ hHeld rfl rfl (by rintro w' ⟨s0, s1, s2⟩; exact yl) ?_
      refine tk 8 38 (bv 10 511) HT_ HW_ hHeld rfl rfl (by rintro w' ⟨s0, s1, s2⟩; exact yl) ?_
      refine pu 9 39 (bv 10 1023) HT_ rfl rfl ?_
      refine done_ (done_of HT_.out (by kernel_rfl)) ?_
      obtain ⟨HGz27, hgz27⟩ := HI0.out
      have hcz27_0 := cellS96_0 HGz27
      have hcz27_1 := cellS96_1 HGz27
      have hcz27_2 := cellS96_2 HGz27
      have hfz27_0 := blk_frozen HGz27 0
      have hfz27_1 := blk_frozen HGz27 1
      have hfz27_2 := blk_frozen HGz27 2
      clear HGz27 hgz27
      try go_wp2_with (first | ((with_reducible refine gd 3 rfl ?_); (try (refine gate_guard (by rfl) ?_; dsimp only)); refine bx 3 #[.int .i64 0, .string (⟨#[]⟩ : ByteArray), .int .i64 0, .slice none 0 0] 33 rfl rfl ?_; intro gb164 hg w28 hbox hb; have n_ := aC (IsS96.below (show IsS96 w0 (w26.setCell ⟨g, 1, none⟩ (.int .i64 (wrap64 (s0_1 + 1)))) g s0_0 (wrap64 (s0_1 + 1)) s0_2 from by repeat (first | (with_reducible first | exact HI0.out | apply IsS96.alloc | apply IsS96.drewN | apply IsS96.drew | apply IsS96.set_0 | apply IsS96.set_1 | apply IsS96.set_2 | refine IsS96.far ?_ NB0_145.out _) | exact HI0.out)) hb) (aC (blk_below (g := gb145) (o := .cells #[.int .i64 0, .string (⟨#[]⟩ : ByteArray), .int .i64 0, .slice none 0 0] 33 (0, 0)) (by (with_reducible repeat (first | refine blk_drewN ?_ _ | refine blk_drew ?_ | refine blk_alloc ?_ _)); refine blk_far ?_ NB145_0.out _; (with_reducible repeat (first | refine blk_drewN ?_ _ | refine blk_drew ?_ | refine blk_alloc ?_ _)); exact BK145.out) hb) (aC (KeepBut.trans (by repeat (first | (with_reducible first | exact HK.out | apply KeepBut.set_ | apply keep_drewN | apply keep_drew | apply keep_alloc | refine keep_far ?_ GW145.out _) | exact HK.out)) (KeepBut.of_below hb g none) (.inl rfl)) (aC (below_step (by repeat (first | (with_reducible first | exact HB.out | apply below_alloc | apply pw_below_drewN | apply below_drew1 | refine below_set ?_ (IsS96.ge HI0.out) | refine below_set ?_ GE145.out) | exact HB.out)) hb) (aC hbox (aC ((by rw [hg]; exact (keep_size (w := w) (g := g) (row := none) (by repeat (first | (with_reducible first | exact HK.out | apply KeepBut.set_ | apply keep_drewN | apply keep_drew | apply keep_alloc | refine keep_far ?_ GW145.out _) | exact HK.out))) : w.heap.size ≤ gb164)) (aC ((Nat.le_trans HW0.out (by rw [hg]; exact (keep_size (w := w) (g := g) (row := none) (by repeat (first | (with_reducible first | exact HK.out | apply KeepBut.set_ | apply keep_drewN | apply keep_drew | apply keep_alloc | refine keep_far ?_ GW145.out _) | exact HK.out))) : w.heap.size ≤ gb164) : w0.heap.size ≤ gb164)) (aC ((by rw [hg]; exact Nat.ne_of_lt (blk_lt (g := gb145) (o := .cells #[.int .i64 0, .string (⟨#[]⟩ : ByteArray), .int .i64 0, .slice none 0 0] 33 (0, 0)) (by (with_reducible repeat (first | refine blk_drewN ?_ _ | refine blk_drew ?_ | refine blk_alloc ?_ _)); refine blk_far ?_ NB145_0.out _; (with_reducible repeat (first | refine blk_drewN ?_ _ | refine blk_drew ?_ | refine blk_alloc ?_ _)); exact BK145.out)) : gb145 ≠ gb164)) (aC ((by rw [hg]; exact Nat.ne_of_gt (blk_lt (g := gb145) (o := .cells #[.int .i64 0, .string (⟨#[]⟩ : ByteArray), .int .i64 0, .slice none 0 0] 33 (0, 0)) (by (with_reducible repeat (first | refine blk_drewN ?_ _ | refine blk_drew ?_ | refine blk_alloc ?_ _)); refine blk_far ?_ NB145_0.out _; (with_reducible repeat (first | refine blk_drewN ?_ _ | refine blk_drew ?_ | refine blk_alloc ?_ _)); exact BK145.out)) : gb164 ≠ gb145)) (aC ((by rw [hg]; exact Nat.ne_of_lt (IsS96.lt (show IsS96 w0 _ g s0_0 (wrap64 (s0_1 + 1)) s0_2 from by repeat (first | (with_reducible first | exact HI0.out | apply IsS96.alloc | apply IsS96.drewN | apply IsS96.drew | apply IsS96.set_0 | apply IsS96.set_1 | apply IsS96.set_2 | refine IsS96.far ?_ NB0_145.out _) | exact HI0.out))) : g ≠ gb164)) (aE ((by rw [hg]; exact Nat.ne_of_gt (IsS96.lt (show IsS96 w0 _ g s0_0 (wrap64 (s0_1 + 1)) s0_2 from by repeat (first | (with_reducible first | exact HI0.out | apply IsS96.alloc | apply IsS96.drewN | apply IsS96.drew | apply IsS96.set_0 | apply IsS96.set_1 | apply IsS96.set_2 | refine IsS96.far ?_ NB0_145.out _) | exact HI0.out))) : gb164 ≠ g)))))))))))); clear HI0 BK145 HK HB; obtain ⟨HI0, BK145, HK, HB, BK164, GW164, GE164, NB145_164, NB164_145, NB0_164, NB164_0⟩ := n_; clear hb hbox hg; have hnb29 := NB164_145.out; have hnc29 := NB145_164.out; have hnb30 := NB164_0.out; have hnc30 := NB0_164.out; obtain ⟨hcz31_0, hcz31_1, hcz31_2, hcz31_3, hfz31_0, hfz31_1, hfz31_2, hfz31_3⟩ := cz4f BK164.out) | (refine gF 64 51 Tryd.func64 #[.pointer (some ⟨g, 0, none⟩)] rfl rfl ?_; (with_reducible refine (incunableref25_reader_blank.calls k g s0_0 (wrap64 (s0_1 + 1)) s0_2 t165 t166 t167 w0 _ ?side1 ?side2 A22.out).mono ?_); (case side1 => repeat (first | (with_reducible first | exact HI0.out | apply IsS96.alloc | apply IsS96.drewN | apply IsS96.drew | apply IsS96.set_0 | apply IsS96.set_1 | apply IsS96.set_2 | refine IsS96.far ?_ NB0_145.out _ | refine IsS96.far ?_ NB0_164.out _) | exact HI0.out)); (case side2 => repeat (first | (with_reducible first | exact HB.out | apply below_alloc | apply pw_below_drewN | apply below_drew1 | refine below_set ?_ (IsS96.ge HI0.out) | refine below_set ?_ GE145.out | refine below_set ?_ GE164.out) | exact HB.out)); rintro e w32 ⟨rfl, hi, hb, hk⟩; refine ⟨_, rfl, ?_⟩; have n_ := aC (KeepBut.blk hk (g' := gb145) (o := .cells #[.int .i64 0, .string (⟨#[]⟩ : ByteArray), .int .i64 0, .slice none 0 0] 33 (0, 0)) (by (with_reducible repeat (first | refine blk_drewN ?_ _ | refine blk_drew ?_ | refine blk_alloc ?_ _)); refine blk_far ?_ NB145_164.out _; (with_reducible repeat (first | refine blk_drewN ?_ _ | refine blk_drew ?_ | refine blk_alloc ?_ _)); refine blk_far ?_ NB145_164.out _; (with_reducible repeat (first | refine blk_drewN ?_ _ | refine blk_drew ?_ | refine blk_alloc ?_ _)); refine blk_far ?_ NB145_164.out _; (with_reducible repeat (first | refine blk_drewN ?_ _ | refine blk_drew ?_ | refine blk_alloc ?_ _)); refine blk_far ?_ NB145_164.out _; (with_reducible repeat (first | refine blk_drewN ?_ _ | refine blk_drew ?_ | refine blk_alloc ?_ _)); exact BK145.out) NB145_0.out (by simp)) (aC (KeepBut.blk hk (g' := gb164) (o := .cells #[.int .i64 0, .string (⟨#[]⟩ : ByteArray), .int .i64 0, .slice none 0 0] 33 (0, 0)) (by (with_reducible repeat (first | refine blk_drewN ?_ _ | refine blk_drew ?_ | refine blk_alloc ?_ _)); refine blk_put (cs := #[.int .i64 0, .string (⟨#[]⟩ : ByteArray), .int .i64 0, .slice none 0 0]) ?_ 3 _ rfl; (with_reducible repeat (first | refine blk_drewN ?_ _ | refine blk_drew ?_ | refine blk_alloc ?_ _)); refine blk_put (cs := #[.int .i64 0, .string (⟨#[]⟩ : ByteArray), .int .i64 0, .slice none 0 0]) ?_ 2 _ rfl; (with_reducible repeat (first | refine blk_drewN ?_ _ | refine blk_drew ?_ | refine blk_alloc ?_ _)); refine blk_put (cs := #[.int .i64 0, .string (⟨#[]⟩ : ByteArray), .int .i64 0, .slice none 0 0]) ?_ 1 _ rfl; (with_reducible repeat (first | refine blk_drewN ?_ _ | refine blk_drew ?_ | refine blk_alloc ?_ _)); refine blk_put (cs := #[.int .i64 0, .string (⟨#[]⟩ : ByteArray), .int .i64 0, .slice none 0 0]) ?_ 0 _ rfl; (with_reducible repeat (first | refine blk_drewN ?_ _ | refine blk_drew ?_ | refine blk_alloc ?_ _)); exact BK164.out) NB164_0.out (by simp)) (aC (KeepBut.trans (by repeat (first | (with_reducible first | exact HK.out | apply KeepBut.set_ | apply keep_drewN | apply keep_drew | apply keep_alloc | refine keep_far ?_ GW145.out _ | refine keep_far ?_ GW164.out _) | exact HK.out)) hk (.inl rfl)) (aC hb (aE hi)))); clear BK145 BK164 HK HB HI0; obtain ⟨BK145, BK164, HK, HB, HI0⟩ := n_))
      (try simp only [Act.put, List.setIfInBounds_toArray, List.set_cons_zero, List.set_cons_succ])
      go_loopg [] k (fun kq w' => ∃ (x1000_1 : ByteArray) (x1001_1 : Int) (x1002_1 : Bool) (x165003_1 : List (S33)) (u165003 : Value), Aside0 (incunableref25_reader_one.l0 kq x1000_1 x1001_1 x1002_1 0 (⟨#[]⟩ : ByteArray) 0 x165003_1 = some (r1, r2, r3, r4, r5, r6, r7)) ∧ Aside0 (kq ≤ k) ∧ Aside0 (Kd.R k33 33 w' w.heap.size (fun k_ => k_ ≠ gb145 ∧ k_ ≠ gb164) u165003 x165003_1) ∧ Aside0 (w'.heap[gb145]? = some (.cells #[.int .i64 0, .string (⟨#[]⟩ : ByteArray), .int .i64 0, (.slice none 0 0)] 33 (0, 0))) ∧ Aside0 (w'.heap[gb164]? = some (.cells #[.int .i64 0, .string (⟨#[]⟩ : ByteArray), .int .i64 0, u165003] 33 (0, 0))) ∧ Aside0 (IsS96 w0 w' g x1000_1 x1001_1 x1002_1) ∧ Aside0 (KeepBut w w' g none) ∧ Aside0 (Below w0.heap.size w0 w'))
      case atStart => exact ⟨(t165), (t166), (t167), (([] : List (S33))), (.slice none 0 0), H', ⟨Nat.le_refl _⟩, ⟨by first | exact Kd.R_nil _ _ _ _ _ | exact Kd.N_nil _ _ _ _ _ | exact Kd.V_nil _ _ _ _ _ | exact Kd.Q_nil _ _ _ _ _ | exact Kd.S_nil _ _ _ _ _⟩, ⟨bU BK145.out⟩, ⟨bU BK164.out⟩, ⟨by repeat (first | (with_reducible first | exact HI0.out | apply IsS96.alloc | apply IsS96.drewN | apply IsS96.drew | apply IsS96.set_0 | apply IsS96.set_1 | apply IsS96.set_2 | refine IsS96.far ?_ NB0_145.out _ | refine IsS96.far ?_ NB0_164.out _) | exact HI0.out)⟩, ⟨by repeat (first | (with_reducible first | exact HK.out | apply KeepBut.set_ | apply keep_drewN | apply keep_drew | apply keep_alloc | refine keep_far ?_ GW145.out _ | refine keep_far ?_ GW164.out _) | exact HK.out)⟩, ⟨by repeat (first | (with_reducible first | exact HB.out | apply below_alloc | apply pw_below_drewN | apply below_drew1 | refine below_set ?_ (IsS96.ge HI0.out) | refine below_set ?_ GE145.out | refine below_set ?_ GE164.out) | exact HB.out)⟩⟩
      case round =>
       clear H'
       obtain ⟨x1000_1, x1001_1, x1002_1, x165003_1, u165003, HA, HK1, HO_165003, BK145, BK164, HI0, HK, HB⟩ := hrel
       cases gk with
       | zero => exact absurd HA.out (by simp [incunableref25_reader_one.l0])
       | succ k1 =>
        have H := HA.out
        clear HA
        simp only [incunableref25_reader_one.l0] at H
        have HC33 := Aside0.mk H
        clear H
        go_upto_region 11 with (fail)
        go_cut [80] (fun v80 wc => ∃ (kq : Nat) (x80_32 : Bool), v80 = .bool x80_32 ∧ Aside0 (incunableref25_reader_one.j1 kq x80_32 x1000_1 x1001_1 x1002_1 0 (⟨#[]⟩ : ByteArray) 0 x165003_1 = some (r1, r2, r3, r4, r5, r6, r7)) ∧ Aside0 (kq ≤ k1) ∧ Aside0 (Kd.R k33 33 wc w.heap.size (fun k_ => k_ ≠ gb145 ∧ k_ ≠ gb164) u165003 x165003_1) ∧ Aside0 (wc.heap[gb145]? = some (.cells #[.int .i64 0, .string (⟨#[]⟩ : ByteArray), .int .i64 0, (.slice none 0 0)] 33 (0, 0))) ∧ Aside0 (wc.heap[gb164]? = some (.cells #[.int .i64 0, .string (⟨#[]⟩ : ByteArray), .int .i64 0, u165003] 33 (0, 0))) ∧ Aside0 (IsS96 w0 wc g x1000_1 x1001_1 x1002_1) ∧ Aside0 (KeepBut w wc g none) ∧ Aside0 (Below w0.heap.size w0 wc))
        case first =>
         have H := HC33.out
         clear HC33
         by_cases c34 : x1002_1 = true
         ·subst c34
          rw [if_pos rfl] at H
          have H' := Aside0.mk H
          clear H
          try go_wp2
          have n_ := aC (Kd.R_drew HO_165003.out) (aC (blk_drew BK145.out) (aC (blk_drew BK164.out) (aC (IsS96.drew HI0.out) (aC (keep_drew HK.out) (aE (below_drew1 HB.out))))))
          clear HO_165003 BK145 BK164 HI0 HK HB
          obtain ⟨HO_165003, BK145, BK164, HI0, HK, HB⟩ := n_
          refine st 29 (fun w' => w'.cell? ⟨g, 0, none⟩ = some (.string x1000_1) ∧ w'.cell? ⟨g, 1, none⟩ = some (.int .i64 x1001_1) ∧ w'.cell? ⟨g, 2, none⟩ = some (.bool true)) [] (bv 29 0) incunableref25_reader_one.tab11 incunableref25_reader_one.bits11 ⟨(blk_cell (Aside0.mk HI0.out.1).out 0).trans rfl, (blk_cell (Aside0.mk HI0.out.1).out 1).trans rfl, (blk_cell (Aside0.mk HI0.out.1).out 2).trans rfl⟩ (fun hHeld HT_ HW_ => ?_)
          generalize wr.drew = w35 at HO_165003 BK145 BK164 HI0 HK HB hHeld ⊢
          refine pu 0 52 (bv 29 1) HT_ rfl rfl ?_
          refine pu 1 53 (bv 29 3) HT_ rfl rfl ?_
          refine pu 2 54 (bv 29 7) HT_ rfl rfl ?_
          refine tk 3 55 (bv 29 15) HT_ HW_ hHeld rfl rfl (by rintro w' ⟨s0, s1, s2⟩; exact yl) ?_
          refine pu 4 56 (bv 29 31) HT_ rfl rfl ?_
          refine pu 5 57 (bv 29 63) HT_ rfl rfl ?_
          refine pn 6 58 (bv 29 127) HT_ rfl rfl ?_
          refine pn 7 59 (bv 29 255) HT_ rfl rfl ?_
          refine pn 8 60 (bv 29 511) HT_ rfl rfl ?_
          refine pn 9 61 (bv 29 1023) HT_ rfl rfl ?_
          refine pn 10 62 (bv 29 2047) HT_ rfl rfl ?_
          refine pn 11 63 (bv 29 4095) HT_ rfl rfl ?_
          refine pn 12 64 (bv 29 8191) HT_ rfl rfl ?_
          refine pn 13 65 (bv 29 16383) HT_ rfl rfl ?_
          refine pn 14 66 (bv 29 32767) HT_ rfl rfl ?_
          refine pn 15 67 (bv 29 65535) HT_ rfl rfl ?_
          refine pu 16 68 (bv 29 131071) HT_ rfl rfl ?_
          refine pu 17 69 (bv 29 262143) HT_ rfl rfl ?_
          refine pn 18 70 (bv 29 524287) HT_ rfl rfl ?_
          refine pn 19 71 (bv 29 1048575) HT_ rfl rfl ?_
          refine pn 20 72 (bv 29 2097151) HT_ rfl rfl ?_
          refine pn 21 73 (bv 29 4194303) HT_ rfl rfl ?_
          refine pn 22 74 (bv 29 8388607) HT_ rfl rfl ?_
          refine pn 23 75 (bv 29 16777215) HT_ rfl rfl ?_
          refine pn 24 76 (bv 29 33554431) HT_ rfl rfl ?_
          refine pn 25 77 (bv 29 67108863) HT_ rfl rfl ?_
          refine pn 26 78 (bv 29 134217727) HT_ rfl rfl ?_
          refine pn 27 79 (bv 29 268435455) HT_ rfl rfl ?_
          refine pu 28 80 (bv 29 536870911) HT_ rfl rfl ?_
          refine done_ (done_of HT_.out (by kernel_rfl)) ?_
          try go_wp2
          go_meet
          case rel => exact ⟨_, (false), rq, H', ⟨by have := HK1.out; first | omega | exact Nat.le_refl _⟩, ⟨rU HO_165003.out⟩, ⟨bU BK145.out⟩, ⟨bU BK164.out⟩, ⟨by repeat (first | (with_reducible first | exact HI0.out | apply IsS96.alloc | apply IsS96.drewN | apply IsS96.drew | apply IsS96.set_0 | apply IsS96.set_1 | apply IsS96.set_2 | refine IsS96.far ?_ NB0_145.out _ | refine IsS96.far ?_ NB0_164.out _) | exact HI0.out)⟩, ⟨by repeat (first | (with_reducible first | exact HK.out | apply KeepBut.set_ | apply keep_drewN | apply keep_drew | apply keep_alloc | refine keep_far ?_ GW145.out _ | refine keep_far ?_ GW164.out _) | exact HK.out)⟩, ⟨by repeat (first | (with_reducible first | exact HB.out | apply below_alloc | apply pw_below_drewN | apply below_drew1 | refine below_set ?_ (IsS96.ge HI0.out) | refine below_set ?_ GE145.out | refine below_set ?_ GE164.out) | exact HB.out)⟩⟩
         ·replace c34 := Bool.eq_false_iff.mpr c34
          subst c34
          rw [if_neg Bool.false_ne_true] at H
          rcases iL H with H1 | H1 <;> clear H <;> obtain ⟨H, c36b0⟩ := H1
          ·(first | rw [c36b0] | (simp only [i64_w, i32_w]; rw [c36b0]) | skip)
           by_cases c37 : 0 ≤ x1001_1
           ·rw [if_pos c37] at H
            have c37b0 := decide_eq_true c37
            clear c37
            have H' := Aside0.mk H
            clear H
            try go_wp2
            have n_ := aC (Kd.R_drew HO_165003.out) (aC (blk_drew BK145.out) (aC (blk_drew BK164.out) (aC (IsS96.drew HI0.out) (aC (keep_drew HK.out) (aE (below_drew1 HB.out))))))
            clear HO_165003 BK145 BK164 HI0 HK HB
            obtain ⟨HO_165003, BK145, BK164, HI0, HK, HB⟩ := n_
            have p38 : 0 ≤ (x1001_1 : Int) := dt
            have q38 : x1001_1 < (x1000_1.size : Int) := dt
            have hx38 := bt_at x1000_1 x1001_1
            replace p38 := eq_true p38
            replace q38 := eq_true q38
            refine st 29 (fun w' => w'.cell? ⟨g, 0, none⟩ = some (.string x1000_1) ∧ w'.cell? ⟨g, 1, none⟩ = some (.int .i64 x1001_1) ∧ w'.cell? ⟨g, 2, none⟩ = some (.bool false)) [] (bv 29 0) incunableref25_reader_one.tab11 incunableref25_reader_one.bits11 ⟨(blk_cell (Aside0.mk HI0.out.1).out 0).trans rfl, (blk_cell (Aside0.mk HI0.out.1).out 1).trans rfl, (blk_cell (Aside0.mk HI0.out.1).out 2).trans rfl⟩ (fun hHeld HT_ HW_ => ?_)
            generalize wr.drew = w39 at HO_165003 BK145 BK164 HI0 HK HB hHeld ⊢
            refine pu 0 52 (bv 29 1) HT_ rfl rfl ?_
            refine pu 1 53 (bv 29 3) HT_ rfl rfl ?_
            refine pu 2 54 (bv 29 7) HT_ rfl rfl ?_
            refine tk 3 55 (bv 29 15) HT_ HW_ hHeld rfl rfl (by rintro w' ⟨s0, s1, s2⟩; exact yl) ?_
            refine pu 4 56 (bv 29 31) HT_ rfl rfl ?_
            refine pu 5 57 (bv 29 63) HT_ rfl rfl ?_
            refine pu 6 58 (bv 29 127) HT_ rfl rfl ?_
            refine pu 7 59 (bv 29 255) HT_ rfl rfl ?_
            refine pu 8 60 (bv 29 511) HT_ rfl rfl ?_
            refine pu 10 62 (bv 29 1535) HT_ rfl rfl ?_
            refine pu 11 63 (bv 29 3583) HT_ rfl rfl ?_
            refine pu 12 64 (bv 29 7679) HT_ rfl rfl ?_
            refine tk 9 61 (bv 29 8191) HT_ HW_ hHeld rfl rfl (by rintro w' ⟨s0, s1, s2⟩; exact yl) ?_
            refine tk 13 65 (bv 29 16383) HT_ HW_ hHeld rfl rfl (by rintro w' ⟨s0, s1, s2⟩; exact yl) ?_
            refine pu 14 66 (bv 29 32767) HT_ rfl rfl ?_
            refine pu 15 67 (bv 29 65535) HT_ rfl rfl ?_
            refine pu 16 68 (bv 29 131071) HT_ rfl rfl ?_
            refine pu 17 69 (bv 29 262143) HT_ rfl rfl ?_
            refine pu 18 70 (bv 29 524287) HT_ rfl rfl ?_
            refine pu 19 71 (bv 29 1048575) HT_ rfl rfl ?_
            refine pu 20 72 (bv 29 2097151) HT_ rfl rfl ?_
            refine pu 22 74 (bv 29 6291455) HT_ rfl rfl ?_
            refine pu 23 75 (bv 29 14680063) HT_ rfl rfl ?_
            refine pu 24 76 (bv 29 31457279) HT_ rfl rfl ?_
            refine tk 21 73 (bv 29 33554431) HT_ HW_ hHeld rfl rfl (by rintro w' ⟨s0, s1, s2⟩; exact yl) ?_
            refine tk 25 77 (bv 29 67108863) HT_ HW_ hHeld rfl rfl (by rintro w' ⟨s0, s1, s2⟩; exact yl) ?_
            refine tk 26 78 (bv 29 134217727) HT_ HW_ hHeld rfl rfl (by rintro w' ⟨s0, s1, s2⟩; exact yl) ?_
            refine pu 27 79 (bv 29 268435455) HT_ rfl rfl ?_
            refine pu 28 80 (bv 29 536870911) HT_ rfl rfl ?_
            refine done_ (done_of HT_.out (by kernel_rfl)) ?_
            try go_wp2
            go_meet
            case rel => exact ⟨_, (((bt x1000_1 x1001_1) != 41)), rq, H', ⟨by have := HK1.out; first | omega | exact Nat.le_refl _⟩, ⟨rU HO_165003.out⟩, ⟨bU BK145.out⟩, ⟨bU BK164.out⟩, ⟨by repeat (first | (with_reducible first | exact HI0.out | apply IsS96.alloc | apply IsS96.drewN | apply IsS96.drew | apply IsS96.set_0 | apply IsS96.set_1 | apply IsS96.set_2 | refine IsS96.far ?_ NB0_145.out _ | refine IsS96.far ?_ NB0_164.out _) | exact HI0.out)⟩, ⟨by repeat (first | (with_reducible first | exact HK.out | apply KeepBut.set_ | apply keep_drewN | apply keep_drew | apply keep_alloc | refine keep_far ?_ GW145.out _ | refine keep_far ?_ GW164.out _) | exact HK.out)⟩, ⟨by repeat (first | (with_reducible first | exact HB.out | apply below_alloc | apply pw_below_drewN | apply below_drew1 | refine below_set ?_ (IsS96.ge HI0.out) | refine below_set ?_ GE145.out | refine below_set ?_ GE164.out) | exact HB.out)⟩⟩
           ·rw [if_neg c37] at H
            exact absurd H (by simp)
          ·(first | rw [c36b0] | (simp only [i64_w, i32_w]; rw [c36b0]) | skip)
           have H' := Aside0.mk H
           clear H
           try go_wp2
           have n_ := aC (Kd.R_drew HO_165003.out) (aC (blk_drew BK145.out) (aC (blk_drew BK164.out) (aC (IsS96.drew HI0.out) (aC (keep_drew HK.out) (aE (below_drew1 HB.out))))))
           clear HO_165003 BK145 BK164 HI0 HK HB
           obtain ⟨HO_165003, BK145, BK164, HI0, HK, HB⟩ := n_
           refine st 29 (fun w' => w'.cell? ⟨g, 0, none⟩ = some (.string x1000_1) ∧ w'.cell? ⟨g, 1, none⟩ = some (.int .i64 x1001_1) ∧ w'.cell? ⟨g, 2, none⟩ = some (.bool false)) [] (bv 29 0) incunableref25_reader_one.tab11 incunableref25_reader_one.bits11 ⟨(blk_cell (Aside0.mk HI0.out.1).out 0).trans rfl, (blk_cell (Aside0.mk HI0.out.1).out 1).trans rfl, (blk_cell (Aside0.mk HI0.out.1).out 2).trans rfl⟩ (fun hHeld HT_ HW_ => ?_)
           generalize wr.drew = w40 at HO_165003 BK145 BK164 HI0 HK HB hHeld ⊢
           refine pu 0 52 (bv 29 1) HT_ rfl rfl ?_
           refine pu 1 53 (bv 29 3) HT_ rfl rfl ?_
           refine pu 2 54 (bv 29 7) HT_ rfl rfl ?_
           refine tk 3 55 (bv 29 15) HT_ HW_ hHeld rfl rfl (by rintro w' ⟨s0, s1, s2⟩; exact yl) ?_
           refine pu 4 56 (bv 29 31) HT_ rfl rfl ?_
           refine pu 5 57 (bv 29 63) HT_ rfl rfl ?_
           refine pu 6 58 (bv 29 127) HT_ rfl rfl ?_
           refine pu 7 59 (bv 29 255) HT_ rfl rfl ?_
           refine pu 8 60 (bv 29 511) HT_ rfl rfl ?_
           refine pu 10 62 (bv 29 1535) HT_ rfl rfl ?_
           refine pu 11 63 (bv 29 3583) HT_ rfl rfl ?_
           refine pu 12 64 (bv 29 7679) HT_ rfl rfl ?_
           refine tk 9 61 (bv 29 8191) HT_ HW_ hHeld rfl rfl (by rintro w' ⟨s0, s1, s2⟩; exact yl) ?_
           refine tk 13 65 (bv 29 16383) HT_ HW_ hHeld rfl rfl (by rintro w' ⟨s0, s1, s2⟩; exact yl) ?_
           refine pu 14 66 (bv 29 32767) HT_ rfl rfl ?_
           refine pu 15 67 (bv 29 65535) HT_ rfl rfl ?_
           refine pu 16 68 (bv 29 131071) HT_ rfl rfl ?_
           refine pu 17 69 (bv 29 262143) HT_ rfl rfl ?_
           refine pn 18 70 (bv 29 524287) HT_ rfl rfl ?_
           refine pn 19 71 (bv 29 1048575) HT_ rfl rfl ?_
           refine pn 20 72 (bv 29 2097151) HT_ rfl rfl ?_
           refine pn 21 73 (bv 29 4194303) HT_ rfl rfl ?_
           refine pn 22 74 (bv 29 8388607) HT_ rfl rfl ?_
           refine pn 23 75 (bv 29 16777215) HT_ rfl rfl ?_
           refine pn 24 76 (bv 29 33554431) HT_ rfl rfl ?_
           refine pn 25 77 (bv 29 67108863) HT_ rfl rfl ?_
           refine pn 26 78 (bv 29 134217727) HT_ rfl rfl ?_
           refine pn 27 79 (bv 29 268435455) HT_ rfl rfl ?_
           refine pu 28 80 (bv 29 536870911) HT_ rfl rfl ?_
           refine done_ (done_of HT_.out (by kernel_rfl)) ?_
           try go_wp2
           go_meet
           case rel => exact ⟨_, (false), rq, H', ⟨by have := HK1.out; first | omega | exact Nat.le_refl _⟩, ⟨rU HO_165003.out⟩, ⟨bU BK145.out⟩, ⟨bU BK164.out⟩, ⟨by repeat (first | (with_reducible first | exact HI0.out | apply IsS96.alloc | apply IsS96.drewN | apply IsS96.drew | apply IsS96.set_0 | apply IsS96.set_1 | apply IsS96.set_2 | refine IsS96.far ?_ NB0_145.out _ | refine IsS96.far ?_ NB0_164.out _) | exact HI0.out)⟩, ⟨by repeat (first | (with_reducible first | exact HK.out | apply KeepBut.set_ | apply keep_drewN | apply keep_drew | apply keep_alloc | refine keep_far ?_ GW145.out _ | refine keep_far ?_ GW164.out _) | exact HK.out)⟩, ⟨by repeat (first | (with_reducible first | exact HB.out | apply below_alloc | apply pw_below_drewN | apply below_drew1 | refine below_set ?_ (IsS96.ge HI0.out) | refine below_set ?_ GE145.out | refine below_set ?_ GE164.out) | exact HB.out)⟩⟩
        case rest =>
         clear HC33
         obtain ⟨kq, x80_32, rfl, HA, HJ32, HO_165003, BK145, BK164, HI0, HK, HB⟩ := hcut
         cases kq with
         | zero => exact absurd HA.out (by simp [incunableref25_reader_one.j1])
         | succ kj32 =>
          have H := HA.out
          clear HA
          simp only [incunableref25_reader_one.j1] at H
          by_cases c41 : x80_32 = true
          ·subst c41
           rw [if_pos rfl] at H
           obtain ⟨⟨t168, t169, t170, t171, t174, t175, t176⟩, A42, H⟩ := oB H
           try dsimp only at H
           by_cases c43 : x165003_1.length < 2513169434916
           ·rw [if_pos c43] at H
            have LMc43 := Aside0.mk c43
            clear c43
            obtain ⟨y177, hy_⟩ : ∃ y_ : List (S33), y_ = (x165003_1 ++ [(⟨t168, t169, t170, t171⟩ : S33)]) := ⟨_, rfl⟩
            replace H : ((incunableref25_reader_blank.f kj32 t174 t175 t176).bind fun bt180 => (incunableref25_reader_one.l0 kj32 bt180.1 bt180.2.1 bt180.2.2 0 (⟨#[]⟩ : ByteArray) 0 y177)) = some (r1, r2, r3, r4, r5, r6, r7) := rh
            have Ny177 := aE hy_
            clear hy_
            obtain ⟨⟨t180, t181, t182⟩, A44, H⟩ := oB H
            try dsimp only at H
            have H' := Aside0.mk H
            clear H
            try go_wp2
            have n_ := aC (Kd.R_drew HO_165003.out) (aC (blk_drew BK145.out) (aC (blk_drew BK164.out) (aC (IsS96.drew HI0.out) (aC (keep_drew HK.out) (aE (below_drew1 HB.out))))))
            clear HO_165003 BK145 BK164 HI0 HK HB
            obtain ⟨HO_165003, BK145, BK164, HI0, HK, HB⟩ := n_
            refine st 8 (fun w' => w'.cell? ⟨gb164, 0, none⟩ = some (.int .i64 0) ∧ w'.cell? ⟨gb164, 1, none⟩ = some (.string (⟨#[]⟩ : ByteArray)) ∧ w'.cell? ⟨gb164, 2, none⟩ = some (.int .i64 0) ∧ w'.cell? ⟨gb164, 3, none⟩ = some (u165003)) [7] (bv 8 0) incunableref25_reader_one.tab12 incunableref25_reader_one.bits12 ⟨kc0 BK164.out, kc1 BK164.out, kc2 BK164.out, kc3 BK164.out⟩ (fun hHeld HT_ HW_ => ?_)
            generalize wc.drew = w45 at HO_165003 BK145 BK164 HI0 HK HB hHeld ⊢
            refine pu 0 81 (bv 8 1) HT_ rfl rfl ?_
            refine pu 2 83 (bv 8 5) HT_ rfl rfl ?_
            refine tk 1 82 (bv 8 7) HT_ HW_ hHeld rfl rfl (by rintro w' ⟨s0, s1, s2, s3⟩; exact yl) ?_
            refine one_ (i := 3) (N := some 84) (bv 8 15) rfl rfl (one_of HT_.out (by kernel_rfl)) (by decide) (fun K hK => ?_)
            refine gK Tryd.func65 rfl #[.pointer (some ⟨g, 0, none⟩)] rfl rfl ?_
            with_reducible refine (ih kj32 (by have := HK1.out; have := HJ32.out; omega) g x1000_1 x1001_1 x1002_1 t168 t169 t170 t171 t174 t175 t176 w0 _ ?side1 ?side2 A42.out).mono ?_
            (case side1 => repeat (first | (with_reducible first | exact HI0.out | apply IsS96.alloc | apply IsS96.drewN | apply IsS96.drew | apply IsS96.set_0 | apply IsS96.set_1 | apply IsS96.set_2 | refine IsS96.far ?_ NB0_145.out _ | refine IsS96.far ?_ NB0_164.out _) | exact HI0.out))
            (case side2 => repeat (first | (with_reducible first | exact HB.out | apply below_alloc | apply pw_below_drewN | apply below_drew1 | refine below_set ?_ (IsS96.ge HI0.out) | refine below_set ?_ GE145.out | refine below_set ?_ GE164.out) | exact HB.out))
            rintro e w46 ⟨v172, rfl, ho0, hi, hb, hk⟩
            refine ⟨_, rfl, ?_⟩
            have n_ := aC (Kd.R_mono (Kd.R_told (Kd.R_oldK (IsS96.apart (show IsS96 w0 _ g x1000_1 x1001_1 x1002_1 from by repeat (first | (with_reducible first | exact HI0.out | apply IsS96.alloc | apply IsS96.drewN | apply IsS96.drew | apply IsS96.set_0 | apply IsS96.set_1 | apply IsS96.set_2 | refine IsS96.far ?_ NB0_145.out _ | refine IsS96.far ?_ NB0_164.out _) | exact HI0.out)) (rU HO_165003.out) (by decide)) hk) (Kd.R_base ho0)) (fun _ h_ => h_.1)) (aC (KeepBut.blk hk (g' := gb145) (o := .cells #[.int .i64 0, .string (⟨#[]⟩ : ByteArray), .int .i64 0, .slice none 0 0] 33 (0, 0)) (bU BK145.out) NB145_0.out (by simp)) (aC (KeepBut.blk hk (g' := gb164) (o := .cells #[.int .i64 0, .string (⟨#[]⟩ : ByteArray), .int .i64 0, u165003] 33 (0, 0)) (bU BK164.out) NB164_0.out (by simp)) (aC (Kd.R_lower (Kd.R_newB (Kd.R_newB (Kd.R_new' ho0 (Kd.R_lt (rU HO_165003.out))) (bU BK145.out)) (bU BK164.out)) (keep_size (w := w) (g := g) (row := none) (by repeat (first | (with_reducible first | exact HK.out | apply KeepBut.set_ | apply keep_drewN | apply keep_drew | apply keep_alloc | refine keep_far ?_ GW145.out _ | refine keep_far ?_ GW164.out _) | exact HK.out)))) (aC (KeepBut.trans (by repeat (first | (with_reducible first | exact HK.out | apply KeepBut.set_ | apply keep_drewN | apply keep_drew | apply keep_alloc | refine keep_far ?_ GW145.out _ | refine keep_far ?_ GW164.out _) | exact HK.out)) hk (.inl rfl)) (aC hb (aE hi))))))
            clear HO_165003 BK145 BK164 HK HB HI0
            obtain ⟨HO_165003, BK145, BK164, HO173, HK, HB, HI0⟩ := n_
            (try clear hb)
            (try clear hb2)
            (try clear hk)
            (try clear hi)
            (try clear ho0)
            obtain ⟨Ao48, co48, eo48⟩ := Kd.R_slice HO173.out
            (first | subst eo48 | (injection eo48 with f1_ f2_ f3_; have f4_ := f1_.symm; have f5_ := f3_.symm; clear f1_ f2_ f3_; subst f4_; subst f5_))
            refine hK.out _ _ ⟨kc0 BK164.out, kc1 BK164.out, kc2 BK164.out, kc3 BK164.out⟩ (fun hHeld => ?_)
            clear hK K
            refine nm (some 84) ?_
            refine one_ (i := 4) (N := some 85) (bv 8 31) rfl rfl (one_of HT_.out (by kernel_rfl)) (by decide) (fun K hK => ?_)
            refine value_ (w1 := ?_) (v := ?_) (by rfl) rfl ?_ ?_
            rotate_left 2
            ·go_simp
             constructor
             ·rfl
             ·rfl
            refine hK.out _ _ ⟨(blk_cell (blk_alloc BK164.out _) 0).trans rfl, (blk_cell (blk_alloc BK164.out _) 1).trans rfl, (blk_cell (blk_alloc BK164.out _) 2).trans rfl, (blk_cell (blk_alloc BK164.out _) 3).trans rfl⟩ (fun hHeld => ?_)
            clear hK K
            refine nm (some 85) ?_
            refine one_ (i := 5) (N := some 86) (bv 8 63) rfl rfl (one_of HT_.out (by kernel_rfl)) (by decide) (fun K hK => ?_)
            refine Kd.R_append_step k33 w.heap.size (by rfl) (.tmp 82) (.tmp 85) 31 33 (.agg #[(.int .i64 0), (.string ⟨#[]⟩), (.int .i64 0), (.slice none 0 0)]) 56 rfl Tryd.underlying31 info33 rfl (by decide) (by omega) u165003 x165003_1 (⟨t168, t169, t170, t171⟩ : S33) [.int .i64 t168, .string t169, .int .i64 t170, .slice Ao48 t171.length co48] (fun k_ => k_ ≠ gb145 ∧ k_ ≠ gb164) (fun k_ => ((fun k_ => k_ ≠ gb145 ∧ k_ ≠ gb164)) k_ ∧ some k_ ≠ (u165003 : Value).ownBlock) rfl rfl ?aP (fun _ hk => hk) ?aF ?aO (Below.refl _ _) ?aS ?aL ?_
            (case aP => exact k33_mkM _ _ _ (⟨t168, t169, t170, t171⟩ : S33) (Kd.R_mono (HO173.out) (fun k_ hk => ⟨⟨hk.1.2, hk.2⟩, hk.1.1.2⟩)))
            (case aF => exact (fun k_ hk => ⟨Kd.freshB (bU BK145.out) k_ hk, Kd.freshB (bU BK164.out) k_ hk⟩))
            (case aO => exact (rU (Kd.R_mono HO_165003.out (fun _ hk => ⟨hk.1.1, hk.1.2⟩))))
            (case aS => exact (keep_size (w := w) (g := g) (row := none) (by repeat (first | (with_reducible first | exact HK.out | apply KeepBut.set_ | apply keep_drewN | apply keep_drew | apply keep_alloc | refine keep_far ?_ GW145.out _ | refine keep_far ?_ GW164.out _) | exact HK.out))))
            (case aL => have := LMc43.out; omega)
            intro v178 w47 ho hb hg hat
            rw [← Ny177.out] at ho
            have n_ := aC (blk_grown (bU BK145.out) hg (Kd.R_away HO_165003.out (fun _ hk => hk.1.1))) (aC (blk_grown (bU BK164.out) hg (Kd.R_away HO_165003.out (fun _ hk => hk.1.2))) (aC (IsS96.grown (by repeat (first | (with_reducible first | exact HI0.out | apply IsS96.alloc | apply IsS96.drewN | apply IsS96.drew | apply IsS96.set_0 | apply IsS96.set_1 | apply IsS96.set_2 | refine IsS96.far ?_ NB0_145.out _ | refine IsS96.far ?_ NB0_164.out _) | exact HI0.out)) hg (IsS96.own_ne HI0.out HO_165003.out (by decide))) (aC (below_weaken (by repeat (first | (with_reducible first | exact HB.out | apply below_alloc | apply pw_below_drewN | apply below_drew1 | refine below_set ?_ (IsS96.ge HI0.out) | refine below_set ?_ GE145.out | refine below_set ?_ GE164.out) | exact HB.out)) HL.out hb) (aC (KeepBut.trans (by repeat (first | (with_reducible first | exact HK.out | apply KeepBut.set_ | apply keep_drewN | apply keep_drew | apply keep_alloc | refine keep_far ?_ GW145.out _ | refine keep_far ?_ GW164.out _) | exact HK.out)) (KeepBut.of_grown hg g) (Kd.R_base2 HO_165003.out)) (aE ho)))))
            clear BK145 BK164 HI0 HB HK HO_165003 HO173
            obtain ⟨BK145, BK164, HI0, HB, HK, HO179⟩ := n_
            clear ho hb hg hat
            obtain ⟨Ao49, co49, eo49⟩ := Kd.R_slice HO179.out
            (first | subst eo49 | (injection eo49 with f1_ f2_ f3_; have f4_ := f1_.symm; have f5_ := f3_.symm; clear f1_ f2_ f3_; subst f4_; subst f5_))
            refine hK.out _ _ ⟨kc0 BK164.out, kc1 BK164.out, kc2 BK164.out, kc3 BK164.out⟩ (fun hHeld => ?_)
            clear hK K
            refine nm (some 86) ?_
            refine pu 6 87 (bv 8 127) HT_ rfl rfl ?_
            refine last_ (i := 7) (N := none) (bv 8 255) rfl rfl (one_of HT_.out (by kernel_rfl)) (by decide) (fun K hK => ?_)
            have hs50 : w47.cell? ⟨gb164, 3, none⟩ = some (u165003) := (blk_cell BK164.out 3).trans rfl
            have hfs50 := blk_frozen BK164.out 3
            have hns50_0 := NB145_164.out
            have hms50_0 := NB164_145.out
            refine skip_ (w1 := ?_) (by rfl) rfl ?_ ?_
            rotate_left
            ·go_simp
             rfl
            refine hK.out _ _ ?_
            clear hK K
            refine done_ (done_of HT_.out (by kernel_rfl)) ?_
            try go_wp2_with (first | (refine gF 64 89 Tryd.func64 #[.pointer (some ⟨g, 0, none⟩)] rfl rfl ?_; (with_reducible refine (incunableref25_reader_blank.calls kj32 g t174 t175 t176 t180 t181 t182 w0 _ ?side1 ?side2 A44.out).mono ?_); (case side1 => repeat (first | (with_reducible first | exact HI0.out | apply IsS96.alloc | apply IsS96.drewN | apply IsS96.drew | apply IsS96.set_0 | apply IsS96.set_1 | apply IsS96.set_2 | refine IsS96.far ?_ NB0_145.out _ | refine IsS96.far ?_ NB0_164.out _) | exact HI0.out)); (case side2 => repeat (first | (with_reducible first | exact HB.out | apply below_alloc | apply pw_below_drewN | apply below_drew1 | refine below_set ?_ (IsS96.ge HI0.out) | refine below_set ?_ GE145.out | refine below_set ?_ GE164.out) | exact HB.out)); rintro e w51 ⟨rfl, hi, hb, hk⟩; refine ⟨_, rfl, ?_⟩; have n_ := aC (KeepBut.blk hk (g' := gb145) (o := .cells #[.int .i64 0, .string (⟨#[]⟩ : ByteArray), .int .i64 0, .slice none 0 0] 33 (0, 0)) (by (with_reducible repeat (first | refine blk_drewN ?_ _ | refine blk_drew ?_ | refine blk_alloc ?_ _)); refine blk_far ?_ NB145_164.out _; (with_reducible repeat (first | refine blk_drewN ?_ _ | refine blk_drew ?_ | refine blk_alloc ?_ _)); exact BK145.out) NB145_0.out (by simp)) (aC (KeepBut.blk hk (g' := gb164) (o := .cells #[.int .i64 0, .string (⟨#[]⟩ : ByteArray), .int .i64 0, .slice Ao49 y177.length co49] 33 (0, 0)) (by (with_reducible repeat (first | refine blk_drewN ?_ _ | refine blk_drew ?_ | refine blk_alloc ?_ _)); refine blk_put (cs := #[.int .i64 0, .string (⟨#[]⟩ : ByteArray), .int .i64 0, u165003]) ?_ 3 _ rfl; (with_reducible repeat (first | refine blk_drewN ?_ _ | refine blk_drew ?_ | refine blk_alloc ?_ _)); exact BK164.out) NB164_0.out (by simp)) (aC (Kd.R_mono (Kd.R_keep (IsS96.apart (show IsS96 w0 _ g t174 t175 t176 from by repeat (first | (with_reducible first | exact HI0.out | apply IsS96.alloc | apply IsS96.drewN | apply IsS96.drew | apply IsS96.set_0 | apply IsS96.set_1 | apply IsS96.set_2 | refine IsS96.far ?_ NB0_145.out _ | refine IsS96.far ?_ NB0_164.out _) | exact HI0.out)) (rU (Kd.R_mono (Kd.R_far (p := ⟨gb164, 3, none⟩) (Kd.R_mono HO179.out (fun k_ hk => (⟨hk, hk.2⟩ : _ ∧ k_ ≠ gb164))) (fun _ hk => hk.2) (.slice Ao49 y177.length co49)) (fun _ h_ => h_.1))) (by decide)) hk (fun _ h => h.2)) (fun _ h => h.1)) (aC (KeepBut.trans (by repeat (first | (with_reducible first | exact HK.out | apply KeepBut.set_ | apply keep_drewN | apply keep_drew | apply keep_alloc | refine keep_far ?_ GW145.out _ | refine keep_far ?_ GW164.out _) | exact HK.out)) hk (.inl rfl)) (aC hb (aE hi))))); clear BK145 BK164 HO179 HK HB HI0; obtain ⟨BK145, BK164, HO179, HK, HB, HI0⟩ := n_))
            go_roundg kj32
            case measure => have := HK1.out; have := HJ32.out; omega
            case rel => exact ⟨(t180), (t181), (t182), (y177), (.slice Ao49 y177.length co49), H', ⟨by have := HK1.out; have := HJ32.out; omega⟩, ⟨rU HO179.out⟩, ⟨bU BK145.out⟩, ⟨bU BK164.out⟩, ⟨by repeat (first | (with_reducible first | exact HI0.out | apply IsS96.alloc | apply IsS96.drewN | apply IsS96.drew | apply IsS96.set_0 | apply IsS96.set_1 | apply IsS96.set_2 | refine IsS96.far ?_ NB0_145.out _ | refine IsS96.far ?_ NB0_164.out _) | exact HI0.out)⟩, ⟨by repeat (first | (with_reducible first | exact HK.out | apply KeepBut.set_ | apply keep_drewN | apply keep_drew | apply keep_alloc | refine keep_far ?_ GW145.out _ | refine keep_far ?_ GW164.out _) | exact HK.out)⟩, ⟨by repeat (first | (with_reducible first | exact HB.out | apply below_alloc | apply pw_below_drewN | apply below_drew1 | refine below_set ?_ (IsS96.ge HI0.out) | refine below_set ?_ GE145.out | refine below_set ?_ GE164.out) | exact HB.out)⟩⟩
           ·rw [if_neg c43] at H
            exact absurd H (by simp)
          ·replace c41 := Bool.eq_false_iff.mpr c41
           subst c41
           rw [if_neg Bool.false_ne_true] at H
           by_cases c52 : x1002_1 = true
           ·subst c52
            rw [if_pos rfl] at H
            simp only [Option.some.injEq, Prod.mk.injEq] at H
            obtain ⟨rfl, rfl, rfl, rfl, rfl, rfl, rfl⟩ := H
            try go_wp2
            have n_ := aC (Kd.R_drew HO_165003.out) (aC (blk_drew BK145.out) (aC (blk_drew BK164.out) (aC (IsS96.drew HI0.out) (aC (keep_drew HK.out) (aE (below_drew1 HB.out))))))
            clear HO_165003 BK145 BK164 HI0 HK HB
            obtain ⟨HO_165003, BK145, BK164, HI0, HK, HB⟩ := n_
            refine st 20 (fun w' => w'.cell? ⟨g, 0, none⟩ = some (.string x1000_1) ∧ w'.cell? ⟨g, 1, none⟩ = some (.int .i64 x1001_1) ∧ w'.cell? ⟨g, 2, none⟩ = some (.bool true)) [19] (bv 20 0) incunableref25_reader_one.tab14 incunableref25_reader_one.bits14 ⟨(blk_cell (Aside0.mk HI0.out.1).out 0).trans rfl, (blk_cell (Aside0.mk HI0.out.1).out 1).trans rfl, (blk_cell (Aside0.mk HI0.out.1).out 2).trans rfl⟩ (fun hHeld HT_ HW_ => ?_)
            generalize wc.drew = w53 at HO_165003 BK145 BK164 HI0 HK HB hHeld ⊢
            refine pu 0 90 (bv 20 1) HT_ rfl rfl ?_
            refine pu 1 91 (bv 20 3) HT_ rfl rfl ?_
            refine pu 2 92 (bv 20 7) HT_ rfl rfl ?_
            refine pu 3 93 (bv 20 15) HT_ rfl rfl ?_
            refine tk 4 94 (bv 20 31) HT_ HW_ hHeld rfl rfl (by rintro w' ⟨s0, s1, s2⟩; exact yl) ?_
            refine pu 5 95 (bv 20 63) HT_ rfl rfl ?_
            refine pn 6 96 (bv 20 127) HT_ rfl rfl ?_
            refine pn 7 97 (bv 20 255) HT_ rfl rfl ?_
            refine pn 8 98 (bv 20 511) HT_ rfl rfl ?_
            refine pn 9 99 (bv 20 1023) HT_ rfl rfl ?_
            refine pn 10 100 (bv 20 2047) HT_ rfl rfl ?_
            refine pn 11 101 (bv 20 4095) HT_ rfl rfl ?_
            refine pn 12 102 (bv 20 8191) HT_ rfl rfl ?_
            refine pn 13 103 (bv 20 16383) HT_ rfl rfl ?_
            refine pn 14 104 (bv 20 32767) HT_ rfl rfl ?_
            refine pn 15 105 (bv 20 65535) HT_ rfl rfl ?_
            refine pu 16 106 (bv 20 131071) HT_ rfl rfl ?_
            refine pu 17 107 (bv 20 262143) HT_ rfl rfl ?_
            refine pu 18 108 (bv 20 524287) HT_ rfl rfl ?_
            refine last_ (i := 19) (N := none) (bv 20 1048575) rfl rfl (one_of HT_.out (by kernel_rfl)) (by decide) (fun K hK => ?_)
            have hfS0_ := blk_frozen HI0.out.1 0
            have hfS1_ := blk_frozen HI0.out.1 1
            have hfS2_ := blk_frozen HI0.out.1 2
            refine skip_ (w1 := ?_) (by rfl) rfl ?_ ?_
            rotate_left
            ·go_simp
             rfl
            refine hK.out _ _ ?_
            clear hK K
            refine done_ (done_of HT_.out (by kernel_rfl)) ?_
            obtain ⟨HGz54, hgz54⟩ := HI0.out
            have hcz54_0 := cellS96_0 HGz54
            have hcz54_1 := cellS96_1 HGz54
            have hcz54_2 := cellS96_2 HGz54
            have hfz54_0 := blk_frozen HGz54 0
            have hfz54_1 := blk_frozen HGz54 1
            have hfz54_2 := blk_frozen HGz54 2
            clear HGz54 hgz54
            have hnb55 := NB164_145.out
            have hnc55 := NB145_164.out
            have hnb56 := NB164_0.out
            have hnc56 := NB0_164.out
            obtain ⟨hcz57_0, hcz57_1, hcz57_2, hcz57_3, hfz57_0, hfz57_1, hfz57_2, hfz57_3⟩ := cz4f BK164.out
            have hnb58 := NB145_0.out
            have hnc58 := NB0_145.out
            obtain ⟨hcz59_0, hcz59_1, hcz59_2, hcz59_3, hfz59_0, hfz59_1, hfz59_2, hfz59_3⟩ := cz4f BK145.out
            obtain ⟨Ao60, co60, eo60⟩ := Kd.R_slice HO_165003.out
            subst eo60
            try go_wp2
            refine bodyPost_ret (results_cell_row rfl _ _ gb145 33 #[.int .i64 0, .string (⟨#[]⟩ : ByteArray), .int .i64 0, .slice Ao60 x165003_1.length co60] (0, 0) _ rfl (by (with_reducible repeat (first | refine blk_drewN ?_ _ | refine blk_drew ?_ | refine blk_alloc ?_ _)); refine blk_put (cs := #[.int .i64 0, .string (⟨#[]⟩ : ByteArray), .int .i64 0, .slice none 0 0]) ?_ 3 _ rfl; (with_reducible repeat (first | refine blk_drewN ?_ _ | refine blk_drew ?_ | refine blk_alloc ?_ _)); refine blk_put (cs := #[.int .i64 0, .string (⟨#[]⟩ : ByteArray), .int .i64 0, .slice none 0 0]) ?_ 2 _ rfl; (with_reducible repeat (first | refine blk_drewN ?_ _ | refine blk_drew ?_ | refine blk_alloc ?_ _)); refine blk_put (cs := #[.int .i64 0, .string (⟨#[]⟩ : ByteArray), .int .i64 0, .slice none 0 0]) ?_ 1 _ rfl; (with_reducible repeat (first | refine blk_drewN ?_ _ | refine blk_drew ?_ | refine blk_alloc ?_ _)); refine blk_put (cs := #[.int .i64 0, .string (⟨#[]⟩ : ByteArray), .int .i64 0, .slice none 0 0]) ?_ 0 _ rfl; (with_reducible repeat (first | refine blk_drewN ?_ _ | refine blk_drew ?_ | refine blk_alloc ?_ _)); refine blk_far ?_ NB145_0.out _; (with_reducible repeat (first | refine blk_drewN ?_ _ | refine blk_drew ?_ | refine blk_alloc ?_ _)); refine blk_far ?_ NB145_0.out _; (with_reducible repeat (first | refine blk_drewN ?_ _ | refine blk_drew ?_ | refine blk_alloc ?_ _)); exact BK145.out) Tryd.underlying33 rfl (by kernel_rfl)) rfl ?_
            exact ⟨_, re, rU (Kd.R_mono (Kd.R_far (p := ⟨gb145, 3, none⟩) (Kd.R_far (p := ⟨gb145, 2, none⟩) (Kd.R_far (p := ⟨gb145, 1, none⟩) (Kd.R_far (p := ⟨gb145, 0, none⟩) (Kd.R_far (p := ⟨g, 1, none⟩) (Kd.R_far (p := ⟨g, 2, none⟩) (Kd.R_mono (IsS96.apart HI0.out HO_165003.out (by decide)) (fun k_ hk => (⟨hk, hk.1.1⟩ : _ ∧ k_ ≠ gb145))) (fun _ hk => hk.1.2) (.bool true)) (fun _ hk => hk.1.2) (.int .i64 (wrap64 (x1001_1 + 1)))) (fun _ hk => hk.2) (.int .i64 0)) (fun _ hk => hk.2) (.string (⟨#[]⟩ : ByteArray))) (fun _ hk => hk.2) (.int .i64 0)) (fun _ hk => hk.2) (.slice Ao60 x165003_1.length co60)) (fun _ hk => trivial)), by repeat (first | (with_reducible first | exact HI0.out | apply IsS96.alloc | apply IsS96.drewN | apply IsS96.drew | apply IsS96.set_0 | apply IsS96.set_1 | apply IsS96.set_2 | refine IsS96.far ?_ NB0_145.out _ | refine IsS96.far ?_ NB0_164.out _) | exact HI0.out), by repeat (first | (with_reducible first | exact HB.out | apply below_alloc | apply pw_below_drewN | apply below_drew1 | refine below_set ?_ (IsS96.ge HI0.out) | refine below_set ?_ GE145.out | refine below_set ?_ GE164.out) | exact HB.out), by repeat (first | (with_reducible first | exact HK.out | apply KeepBut.set_ | apply keep_drewN | apply keep_drew | apply keep_alloc | refine keep_far ?_ GW145.out _ | refine keep_far ?_ GW164.out _) | exact HK.out)⟩
           ·replace c52 := Bool.eq_false_iff.mpr c52
            subst c52
            rw [if_neg Bool.false_ne_true] at H
            simp only [Option.some.injEq, Prod.mk.injEq] at H
            obtain ⟨rfl, rfl, rfl, rfl, rfl, rfl, rfl⟩ := H
            try go_wp2
            have n_ := aC (Kd.R_drew HO_165003.out) (aC (blk_drew BK145.out) (aC (blk_drew BK164.out) (aC (IsS96.drew HI0.out) (aC (keep_drew HK.out) (aE (below_drew1 HB.out))))))
            clear HO_165003 BK145 BK164 HI0 HK HB
            obtain ⟨HO_165003, BK145, BK164, HI0, HK, HB⟩ := n_
            refine st 20 (fun w' => w'.cell? ⟨g, 0, none⟩ = some (.string x1000_1) ∧ w'.cell? ⟨g, 1, none⟩ = some (.int .i64 x1001_1) ∧ w'.cell? ⟨g, 2, none⟩ = some (.bool false)) [19] (bv 20 0) incunableref25_reader_one.tab14 incunableref25_reader_one.bits14 ⟨(blk_cell (Aside0.mk HI0.out.1).out 0).trans rfl, (blk_cell (Aside0.mk HI0.out.1).out 1).trans rfl, (blk_cell (Aside0.mk HI0.out.1).out 2).trans rfl⟩ (fun hHeld HT_ HW_ => ?_)
            generalize wc.drew = w61 at HO_165003 BK145 BK164 HI0 HK HB hHeld ⊢
            refine pu 0 90 (bv 20 1) HT_ rfl rfl ?_
            refine pu 1 91 (bv 20 3) HT_ rfl rfl ?_
            refine pu 2 92 (bv 20 7) HT_ rfl rfl ?_
            refine pu 3 93 (bv 20 15) HT_ rfl rfl ?_
            refine tk 4 94 (bv 20 31) HT_ HW_ hHeld rfl rfl (by rintro w' ⟨s0, s1, s2⟩; exact yl) ?_
            refine pu 5 95 (bv 20 63) HT_ rfl rfl ?_
            refine pu 6 96 (bv 20 127) HT_ rfl rfl ?_
            refine pu 7 97 (bv 20 255) HT_ rfl rfl ?_
            refine pu 8 98 (bv 20 511) HT_ rfl rfl ?_
            refine pu 10 100 (bv 20 1535) HT_ rfl rfl ?_
            refine pu 11 101 (bv 20 3583) HT_ rfl rfl ?_
            refine pu 12 102 (bv 20 7679) HT_ rfl rfl ?_
            refine tk 9 99 (bv 20 8191) HT_ HW_ hHeld rfl rfl (by rintro w' ⟨s0, s1, s2⟩; exact yl) ?_
            refine tk 13 103 (bv 20 16383) HT_ HW_ hHeld rfl rfl (by rintro w' ⟨s0, s1, s2⟩; exact yl) ?_
            refine pu 14 104 (bv 20 32767) HT_ rfl rfl ?_
            refine pu 15 105 (bv 20 65535) HT_ rfl rfl ?_
            refine pu 16 106 (bv 20 131071) HT_ rfl rfl ?_
            refine pu 17 107 (bv 20 262143) HT_ rfl rfl ?_
            refine pu 18 108 (bv 20 524287) HT_ rfl rfl ?_
            refine last_ (i := 19) (N := none) (bv 20 1048575) rfl rfl (one_of HT_.out (by kernel_rfl)) (by decide) (fun K hK => ?_)
            have hfS0_ := blk_frozen HI0.out.1 0
            have hfS1_ := blk_frozen HI0.out.1 1
            have hfS2_ := blk_frozen HI0.out.1 2
            refine skip_ (w1 := ?_) (by rfl) rfl ?_ ?_
            rotate_left
            ·go_simp
             rfl
            refine hK.out _ _ ?_
            clear hK K
            refine done_ (done_of HT_.out (by kernel_rfl)) ?_
            obtain ⟨HGz62, hgz62⟩ := HI0.out
            have hcz62_0 := cellS96_0 HGz62
            have hcz62_1 := cellS96_1 HGz62
            have hcz62_2 := cellS96_2 HGz62
            have hfz62_0 := blk_frozen HGz62 0
            have hfz62_1 := blk_frozen HGz62 1
            have hfz62_2 := blk_frozen HGz62 2
            clear HGz62 hgz62
            have hnb63 := NB164_145.out
            have hnc63 := NB145_164.out
            have hnb64 := NB164_0.out
            have hnc64 := NB0_164.out
            obtain ⟨hcz65_0, hcz65_1, hcz65_2, hcz65_3, hfz65_0, hfz65_1, hfz65_2, hfz65_3⟩ := cz4f BK164.out
            have hnb66 := NB145_0.out
            have hnc66 := NB0_145.out
            obtain ⟨hcz67_0, hcz67_1, hcz67_2, hcz67_3, hfz67_0, hfz67_1, hfz67_2, hfz67_3⟩ := cz4f BK145.out
            obtain ⟨Ao68, co68, eo68⟩ := Kd.R_slice HO_165003.out
            subst eo68
            try go_wp2
            refine bodyPost_ret (results_cell_row rfl _ _ gb145 33 #[.int .i64 0, .string (⟨#[]⟩ : ByteArray), .int .i64 0, .slice Ao68 x165003_1.length co68] (0, 0) _ rfl (by (with_reducible repeat (first | refine blk_drewN ?_ _ | refine blk_drew ?_ | refine blk_alloc ?_ _)); refine blk_put (cs := #[.int .i64 0, .string (⟨#[]⟩ : ByteArray), .int .i64 0, .slice none 0 0]) ?_ 3 _ rfl; (with_reducible repeat (first | refine blk_drewN ?_ _ | refine blk_drew ?_ | refine blk_alloc ?_ _)); refine blk_put (cs := #[.int .i64 0, .string (⟨#[]⟩ : ByteArray), .int .i64 0, .slice none 0 0]) ?_ 2 _ rfl; (with_reducible repeat (first | refine blk_drewN ?_ _ | refine blk_drew ?_ | refine blk_alloc ?_ _)); refine blk_put (cs := #[.int .i64 0, .string (⟨#[]⟩ : ByteArray), .int .i64 0, .slice none 0 0]) ?_ 1 _ rfl; (with_reducible repeat (first | refine blk_drewN ?_ _ | refine blk_drew ?_ | refine blk_alloc ?_ _)); refine blk_put (cs := #[.int .i64 0, .string (⟨#[]⟩ : ByteArray), .int .i64 0, .slice none 0 0]) ?_ 0 _ rfl; (with_reducible repeat (first | refine blk_drewN ?_ _ | refine blk_drew ?_ | refine blk_alloc ?_ _)); refine blk_far ?_ NB145_0.out _; (with_reducible repeat (first | refine blk_drewN ?_ _ | refine blk_drew ?_ | refine blk_alloc ?_ _)); refine blk_far ?_ NB145_0.out _; (with_reducible repeat (first | refine blk_drewN ?_ _ | refine blk_drew ?_ | refine blk_alloc ?_ _)); exact BK145.out) Tryd.underlying33 rfl (by kernel_rfl)) rfl ?_
            exact ⟨_, re, rU (Kd.R_mono (Kd.R_far (p := ⟨gb145, 3, none⟩) (Kd.R_far (p := ⟨gb145, 2, none⟩) (Kd.R_far (p := ⟨gb145, 1, none⟩) (Kd.R_far (p := ⟨gb145, 0, none⟩) (Kd.R_far (p := ⟨g, 1, none⟩) (Kd.R_far (p := ⟨g, 2, none⟩) (Kd.R_mono (IsS96.apart HI0.out HO_165003.out (by decide)) (fun k_ hk => (⟨hk, hk.1.1⟩ : _ ∧ k_ ≠ gb145))) (fun _ hk => hk.1.2) (.bool (decide (x1001_1 ≥ (x1000_1.size : Int))))) (fun _ hk => hk.1.2) (.int .i64 (wrap64 (x1001_1 + 1)))) (fun _ hk => hk.2) (.int .i64 0)) (fun _ hk => hk.2) (.string (⟨#[]⟩ : ByteArray))) (fun _ hk => hk.2) (.int .i64 0)) (fun _ hk => hk.2) (.slice Ao68 x165003_1.length co68)) (fun _ hk => trivial)), by repeat (first | (with_reducible first | exact HI0.out | apply IsS96.alloc | apply IsS96.drewN | apply IsS96.drew | apply IsS96.set_0 | apply IsS96.set_1 | apply IsS96.set_2 | refine IsS96.far ?_ NB0_145.out _ | refine IsS96.far ?_ NB0_164.out _) | exact HI0.out), by repeat (first | (with_reducible first | exact HB.out | apply below_alloc | apply pw_below_drewN | apply below_drew1 | refine below_set ?_ (IsS96.ge HI0.out) | refine below_set ?_ GE145.out | refine below_set ?_ GE164.out) | exact HB.out), by repeat (first | (with_reducible first | exact HK.out | apply KeepBut.set_ | apply keep_drewN | apply keep_drew | apply keep_alloc | refine keep_far ?_ GW145.out _ | refine keep_far ?_ GW164.out _) | exact HK.out)⟩
     ·obtain ⟨⟨t155, t156, t157, t158, t161, t162, t163⟩, A69, H⟩ := oB H
      try dsimp only at H
      simp only [Option.some.injEq, Prod.mk.injEq] at H
      obtain ⟨rfl, rfl, rfl, rfl, rfl, rfl, rfl⟩ := H
      go_enter Tryd.func65, Tryd.ntmps65
      try go_wp2_with (first | ((with_reducible refine gd 2 rfl ?_); (try (refine gate_guard (by rfl) ?_; dsimp only)); refine bx 2 #[.int .i64 0, .string (⟨#[]⟩ : ByteArray), .int .i64 0, .slice none 0 0] 33 rfl rfl ?_; intro gb145 hg w70 hbox hb; have n_ := aC (IsS96.below (by repeat (first | (with_reducible first | exact HI0.out | apply IsS96.alloc | apply IsS96.drewN | apply IsS96.drew | apply IsS96.set_0 | apply IsS96.set_1 | apply IsS96.set_2) | exact HI0.out)) hb) (aC (KeepBut.trans (by repeat (first | (with_reducible first | exact HK.out | apply KeepBut.set_ | apply keep_drewN | apply keep_drew | apply keep_alloc) | exact HK.out)) (KeepBut.of_below hb g none) (.inl rfl)) (aC (below_step (by repeat (first | (with_reducible first | exact HB.out | apply below_alloc | apply pw_below_drewN | apply below_drew1 | refine below_set ?_ (IsS96.ge HI0.out)) | exact HB.out)) hb) (aC hbox (aC ((by rw [hg]; exact (keep_size (w := w) (g := g) (row := none) (by repeat (first | (with_reducible first | exact HK.out | apply KeepBut.set_ | apply keep_drewN | apply keep_drew | apply keep_alloc) | exact HK.out))) : w.heap.size ≤ gb145)) (aC ((Nat.le_trans HW0.out (by rw [hg]; exact (keep_size (w := w) (g := g) (row := none) (by repeat (first | (with_reducible first | exact HK.out | apply KeepBut.set_ | apply keep_drewN | apply keep_drew | apply keep_alloc) | exact HK.out))) : w.heap.size ≤ gb145) : w0.heap.size ≤ gb145)) (aC ((by rw [hg]; exact Nat.ne_of_lt (IsS96.lt (show IsS96 w0 _ g s0_0 s0_1 s0_2 from by repeat (first | (with_reducible first | exact HI0.out | apply IsS96.alloc | apply IsS96.drewN | apply IsS96.drew | apply IsS96.set_0 | apply IsS96.set_1 | apply IsS96.set_2) | exact HI0.out))) : g ≠ gb145)) (aE ((by rw [hg]; exact Nat.ne_of_gt (IsS96.lt (show IsS96 w0 _ g s0_0 s0_1 s0_2 from by repeat (first | (with_reducible first | exact HI0.out | apply IsS96.alloc | apply IsS96.drewN | apply IsS96.drew | apply IsS96.set_0 | apply IsS96.set_1 | apply IsS96.set_2) | exact HI0.out))) : gb145 ≠ g))))))))); clear HI0 HK HB; obtain ⟨HI0, HK, HB, BK145, GW145, GE145, NB0_145, NB145_0⟩ := n_; clear hb hbox hg))
      have n_ := aC (blk_drew BK145.out) (aC (IsS96.drew HI0.out) (aC (keep_drew HK.out) (aE (below_drew1 HB.out))))
      clear BK145 HI0 HK HB
      obtain ⟨BK145, HI0, HK, HB⟩ := n_
      refine st 10 (fun w' => w'.cell? ⟨g, 0, none⟩ = some (.string s0_0) ∧ w'.cell? ⟨g, 1, none⟩ = some (.int .i64 s0_1) ∧ w'.cell? ⟨g, 2, none⟩ = some (.bool s0_2)) [] (bv 10 0) incunableref25_reader_one.tab1 incunableref25_reader_one.bits1 ⟨(blk_cell (Aside0.mk HI0.out.1).out 0).trans rfl, (blk_cell (Aside0.mk HI0.out.1).out 1).trans rfl, (blk_cell (Aside0.mk HI0.out.1).out 2).trans rfl⟩ (fun hHeld HT_ HW_ => ?_)
      generalize w70.drew = w71 at BK145 HI0 HK HB hHeld ⊢
      refine pu 0 4 (bv 10 1) HT_ rfl rfl ?_
      refine pu 1 5 (bv 10 3) HT_ rfl rfl ?_
      refine pu 2 6 (bv 10 7) HT_ rfl rfl ?_
      refine pu 4 8 (bv 10 23) HT_ rfl rfl ?_
      refine pu 5 9 (bv 10 55) HT_ rfl rfl ?_
      refine pu 6 10 (bv 10 119) HT_ rfl rfl ?_
      refine tk 3 7 (bv 10 127) HT_ HW_ hHeld rfl rfl (by rintro w' ⟨s0, s1, s2⟩; exact yl) ?_
      refine tk 7 11 (bv 10 255) HT_ HW_ hHeld rfl rfl (by rintro w' ⟨s0, s1, s2⟩; exact yl) ?_
      refine pu 8 12 (bv 10 511) HT_ rfl rfl ?_
      refine pu 9 13 (bv 10 1023) HT_ rfl rfl ?_
      refine done_ (done_of HT_.out (by kernel_rfl)) ?_
      try go_wp2
      have n_ := aC (blk_drew BK145.out) (aC (IsS96.drew HI0.out) (aC (keep_drew HK.out) (aE (below_drew1 HB.out))))
      clear BK145 HI0 HK HB
      obtain ⟨BK145, HI0, HK, HB⟩ := n_
      have p10 : 0 ≤ (s0_1 : Int) := dt
      have q10 : s0_1 < (s0_0.size : Int) := dt
      have hx10 := bt_at s0_0 s0_1
      replace p10 := eq_true p10
      replace q10 := eq_true q10
      refine st 10 (fun w' => w'.cell? ⟨g, 0, none⟩ = some (.string s0_0) ∧ w'.cell? ⟨g, 1, none⟩ = some (.int .i64 s0_1) ∧ w'.cell? ⟨g, 2, none⟩ = some (.bool s0_2)) [] (bv 10 0) incunableref25_reader_one.tab4 incunableref25_reader_one.bits4 ⟨(blk_cell (Aside0.mk HI0.out.1).out 0).trans rfl, (blk_cell (Aside0.mk HI0.out.1).out 1).trans rfl, (blk_cell (Aside0.mk HI0.out.1).out 2).trans rfl⟩ (fun hHeld HT_ HW_ => ?_)
      generalize w71.drew = w72 at BK145 HI0 HK HB hHeld ⊢
      refine pu 0 18 (bv 10 1) HT_ rfl rfl ?_
      refine pu 1 19 (bv 10 3) HT_ rfl rfl ?_
      refine pu 2 20 (bv 10 7) HT_ rfl rfl ?_
      refine pu 4 22 (bv 10 23) HT_ rfl rfl ?_
      refine pu 5 23 (bv 10 55) HT_ rfl rfl ?_
      refine pu 6 24 (bv 10 119) HT_ rfl rfl ?_
      refine tk 3 21 (bv 10 127) HT_ HW_ hHeld rfl rfl (by rintro w' ⟨s0, s1, s2⟩; exact yl) ?_
      refine tk 7 25 (bv 10 255) HT_ HW_ hHeld rfl rfl (by rintro w' ⟨s0, s1, s2⟩; exact yl) ?_
      refine tk 8 26 (bv 10 511) HT_ HW_ hHeld rfl rfl (by rintro w' ⟨s0, s1, s2⟩; exact yl) ?_
      refine pu 9 27 (bv 10 1023) HT_ rfl rfl ?_
      refine done_ (done_of HT_.out (by kernel_rfl)) ?_
      try go_wp2
      have n_ := aC (blk_drew BK145.out) (aC (IsS96.drew HI0.out) (aC (keep_drew HK.out) (aE (below_drew1 HB.out))))
      clear BK145 HI0 HK HB
      obtain ⟨BK145, HI0, HK, HB⟩ := n_
      have p20 : 0 ≤ (s0_1 : Int) := dt
      have q20 : s0_1 < (s0_0.size : Int) := dt
      have hx20 := bt_at s0_0 s0_1
      replace p20 := eq_true p20
      replace q20 := eq_true q20
      refine st 10 (fun w' => w'.cell? ⟨g, 0, none⟩ = some (.string s0_0) ∧ w'.cell? ⟨g, 1, none⟩ = some (.int .i64 s0_1) ∧ w'.cell? ⟨g, 2, none⟩ = some (.bool s0_2)) [] (bv 10 0) incunableref25_reader_one.tab6 incunableref25_reader_one.bits6 ⟨(blk_cell (Aside0.mk HI0.out.1).out 0).trans rfl, (blk_cell (Aside0.mk HI0.out.1).out 1).trans rfl, (blk_cell (Aside0.mk HI0.out.1).out 2).trans rfl⟩ (fun hHeld HT_ HW_ => ?_)
      generalize w72.drew = w73 at BK145 HI0 HK HB hHeld ⊢
      refine pu 0 30 (bv 10 1) HT_ rfl rfl ?_
      refine pu 1 31 (bv 10 3) HT_ rfl rfl ?_
      refine pu 2 32 (bv 10 7) HT_ rfl rfl ?_
      refine pu 4 34 (bv 10 23) HT_ rfl rfl ?_
      refine pu 5 35 (bv 10 55) HT_ rfl rfl ?_
      refine pu 6 36 (bv 10 119) HT_ rfl rfl ?_
      refine tk 3 33 (bv 10 127) HT_ HW_ hHeld rfl rfl (by rintro w' ⟨s0, s1, s2⟩; exact yl) ?_
      refine tk 7 37 (bv 10 255) HT_ HW_ hHeld rfl rfl (by rintro w' ⟨s0, s1, s2⟩; exact yl) ?_
      refine tk 8 38 (bv 10 511) HT_ HW_ hHeld rfl rfl (by rintro w' ⟨s0, s1, s2⟩; exact yl) ?_
      refine pu 9 39 (bv 10 1023) HT_ rfl rfl ?_
      refine done_ (done_of HT_.out (by kernel_rfl)) ?_
      try go_wp2_with (first | (refine gF 89 41 Tryd.func89 #[.pointer (some ⟨g, 0, none⟩)] rfl rfl ?_; (with_reducible refine (incunableref25_reader_word.calls k g s0_0 s0_1 s0_2 t155 t156 t157 t158 t161 t162 t163 w0 _ ?side1 ?side2 A69.out).mono ?_); (case side1 => repeat (first | (with_reducible first | exact HI0.out | apply IsS96.alloc | apply IsS96.drewN | apply IsS96.drew | apply IsS96.set_0 | apply IsS96.set_1 | apply IsS96.set_2 | refine IsS96.far ?_ NB0_145.out _) | exact HI0.out)); (case side2 => repeat (first | (with_reducible first | exact HB.out | apply below_alloc | apply pw_below_drewN | apply below_drew1 | refine below_set ?_ (IsS96.ge HI0.out) | refine below_set ?_ GE145.out) | exact HB.out)); rintro e w74 ⟨v159, rfl, ho0, hi, hb, hk⟩; refine ⟨_, rfl, ?_⟩; have n_ := aC (KeepBut.blk hk (g' := gb145) (o := .cells #[.int .i64 0, .string (⟨#[]⟩ : ByteArray), .int .i64 0, .slice none 0 0] 33 (0, 0)) (bU BK145.out) NB145_0.out (by simp)) (aC (Kd.R_lower (Kd.R_newB ho0 (bU BK145.out)) (keep_size (w := w) (g := g) (row := none) (by repeat (first | (with_reducible first | exact HK.out | apply KeepBut.set_ | apply keep_drewN | apply keep_drew | apply keep_alloc | refine keep_far ?_ GW145.out _) | exact HK.out)))) (aC (KeepBut.trans (by repeat (first | (with_reducible first | exact HK.out | apply KeepBut.set_ | apply keep_drewN | apply keep_drew | apply keep_alloc | refine keep_far ?_ GW145.out _) | exact HK.out)) hk (.inl rfl)) (aC hb (aE hi)))); clear BK145 HK HB HI0; obtain ⟨BK145, HO160, HK, HB, HI0⟩ := n_; have hnb75 := NB145_0.out; have hnc75 := NB0_145.out; obtain ⟨hcz76_0, hcz76_1, hcz76_2, hcz76_3, hfz76_0, hfz76_1, hfz76_2, hfz76_3⟩ := cz4f BK145.out; obtain ⟨Ao77, co77, eo77⟩ := Kd.R_slice HO160.out; subst eo77))
      refine bodyPost_ret (results_cell_row rfl _ _ gb145 33 #[.int .i64 t155, .string t156, .int .i64 t157, .slice Ao77 t158.length co77] (0, 0) _ rfl (by (with_reducible repeat (first | refine blk_drewN ?_ _ | refine blk_drew ?_ | refine blk_alloc ?_ _)); refine blk_put (cs := #[.int .i64 t155, .string t156, .int .i64 t157, .slice none 0 0]) ?_ 3 _ rfl; (with_reducible repeat (first | refine blk_drewN ?_ _ | refine blk_drew ?_ | refine blk_alloc ?_ _)); refine blk_put (cs := #[.int .i64 t155, .string t156, .int .i64 0, .slice none 0 0]) ?_ 2 _ rfl; (with_reducible repeat (first | refine blk_drewN ?_ _ | refine blk_drew ?_ | refine blk_alloc ?_ _)); refine blk_put (cs := #[.int .i64 t155, .string (⟨#[]⟩ : ByteArray), .int .i64 0, .slice none 0 0]) ?_ 1 _ rfl; (with_reducible repeat (first | refine blk_drewN ?_ _ | refine blk_drew ?_ | refine blk_alloc ?_ _)); refine blk_put (cs := #[.int .i64 0, .string (⟨#[]⟩ : ByteArray), .int .i64 0, .slice none 0 0]) ?_ 0 _ rfl; (with_reducible repeat (first | refine blk_drewN ?_ _ | refine blk_drew ?_ | refine blk_alloc ?_ _)); exact BK145.out) Tryd.underlying33 rfl (by kernel_rfl)) rfl ?_
      exact ⟨_, re, rU (Kd.R_mono (Kd.R_far (p := ⟨gb145, 3, none⟩) (Kd.R_far (p := ⟨gb145, 2, none⟩) (Kd.R_far (p := ⟨gb145, 1, none⟩) (Kd.R_far (p := ⟨gb145, 0, none⟩) (Kd.R_mono HO160.out (fun k_ hk => (⟨hk, hk.2⟩ : _ ∧ k_ ≠ gb145))) (fun _ hk => hk.2) (.int .i64 t155)) (fun _ hk => hk.2) (.string t156)) (fun _ hk => hk.2) (.int .i64 t157)) (fun _ hk => hk.2) (.slice Ao77 t158.length co77)) (fun _ hk => trivial)), by repeat (first | (with_reducible first | exact HI0.out | apply IsS96.alloc | apply IsS96.drewN | apply IsS96.drew | apply IsS96.set_0 | apply IsS96.set_1 | apply IsS96.set_2 | refine IsS96.far ?_ NB0_145.out _) | exact HI0.out), by repeat (first | (with_reducible first | exact HB.out | apply below_alloc | apply pw_below_drewN | apply below_drew1 | refine below_set ?_ (IsS96.ge HI0.out) | refine below_set ?_ GE145.out) | exact HB.out), by repeat (first | (with_reducible first | exact HK.out | apply KeepBut.set_ | apply keep_drewN | apply keep_drew | apply keep_alloc | refine keep_far ?_ GW145.out _) | exact HK.out)⟩
   ·rw [if_neg c9] at H
    exact absurd H (by simp)
  ·rw [if_neg c8] at H
   exact absurd H (by simp)
end Go.Proofs.YtacdchogjpeffaaDoor.PNoteParses
