-- printed (wip/tools/myprint.py)
import Derived.Test.YtacdchogjpeffaaDoorPNoteParsesx0
import Derived.Test.YtacdchogjpeffaaDoorPNoteParsesx7
namespace Go.Proofs.YtacdchogjpeffaaDoor.PNoteParses
open Go.RowKit Go.Proofs.YtacdchogjpeffaaDoorW.PrintWords Go.Proofs.YtacdchogjpeffaaDoorW.PrintLast Go.Proofs.YtacdchogjpeffaaDoorW.PrintMore
attribute [local go_sem] max2_int min2_int max_two min_two max_three min_three max_four min_four
set_option linter.unusedVariables false
set_option linter.unusedSimpArgs false
theorem R_keepT {α : Type} {d : Kd α} {e base g : Nat} {ok : Nat → Prop} {W W1 : World} {v : Value} {xs : List α} (h : d.R e W base ok v xs) (hk : KeepBut W W1 g none) (hg : g < base) : d.R e W1 base ok v xs :=
 Kd.R_mono (Kd.R_move (Kd.R_bound h) (fun k hk' => hk.2 k hk'.2.2.1 (by have := hk'.2.1; omega) (by simp))) (fun _ h => h.1)
mutual
def incunableref25_reader_text.l0 : Nat → List Int → ByteArray → Int → Bool → Option (Int × ByteArray × Int × (List (S33)) × ByteArray × Int × Bool)
 | 0, _, _, _, _ => none
 | k + 1, x3, x1000, x1001, x1002 => if x1001 < (x1000.size : Int) then (if 0 ≤ x1001 then (incunableref25_reader_text.j1 k x3 ((bt x1000 x1001) != 34) x1000 x1001 x1002) else (none)) else (incunableref25_reader_text.j1 k x3 false x1000 x1001 x1002)
def incunableref25_reader_text.j1 : Nat → List Int → Bool → ByteArray → Int → Bool → Option (Int × ByteArray × Int × (List (S33)) × ByteArray × Int × Bool)
 | 0, _, _, _, _, _ => none
 | k + 1, x3, x32, x1000, x1001, x1002 => if x32 = true then (if 0 ≤ x1001 then (if x1001 < (x1000.size : Int) then (if (bt x1000 x1001) = 92 then (if (wrap64 (x1001 + 1)) ≥ (x1000.size : Int) then (some (0, (⟨#[]⟩ : ByteArray), 0, ([] : List (S33)), x1000, wrap64 (x1001 + 1), true)) else (if 0 ≤ (wrap64 (x1001 + 1)) then (if (wrap64 (x1001 + 1)) < (x1000.size : Int) then (if (bt x1000 (wrap64 (x1001 + 1))) = 34 then (if x3.length < 140737488355328 then (incunableref25_reader_text.l0 k (x3 ++ [bt x1000 (wrap64 (x1001 + 1))]) x1000 (wrap64 ((wrap64 (x1001 + 1)) + 1)) x1002) else (none)) else (if (bt x1000 (wrap64 (x1001 + 1))) = 92 then (if x3.length < 140737488355328 then (incunableref25_reader_text.l0 k (x3 ++ [bt x1000 (wrap64 (x1001 + 1))]) x1000 (wrap64 ((wrap64 (x1001 + 1)) + 1)) x1002) else (none)) else (some (0, (⟨#[]⟩ : ByteArray), 0, ([] : List (S33)), x1000, wrap64 (x1001 + 1), true)))) else (none)) else (none))) else (if x3.length < 140737488355328 then (incunableref25_reader_text.l0 k (x3 ++ [bt x1000 x1001]) x1000 (wrap64 (x1001 + 1)) x1002) else (none))) else (none)) else (none)) else (if x1002 = true then (some (3, strOfNums x3, 0, ([] : List (S33)), x1000, wrap64 (x1001 + 1), true)) else (if x1001 ≥ (x1000.size : Int) then (some (3, strOfNums x3, 0, ([] : List (S33)), x1000, wrap64 (x1001 + 1), true)) else (some (3, strOfNums x3, 0, ([] : List (S33)), x1000, wrap64 (x1001 + 1), decide ((x3.length : Int) > 200)))))
end
def incunableref25_reader_text.f (k : Nat) (s0_0 : ByteArray) (s0_1 : Int) (s0_2 : Bool) : Option (Int × ByteArray × Int × (List (S33)) × ByteArray × Int × Bool) := incunableref25_reader_text.l0 k ([] : List Int) s0_0 (wrap64 (s0_1 + 1)) s0_2
theorem incunableref25_reader_text.mono_l : ∀ k, (∀ y0 y1 y2 y3, LeO (incunableref25_reader_text.l0 k y0 y1 y2 y3) (incunableref25_reader_text.l0 (k + 1) y0 y1 y2 y3)) ∧ (∀ y0 y1 y2 y3 y4, LeO (incunableref25_reader_text.j1 k y0 y1 y2 y3 y4) (incunableref25_reader_text.j1 (k + 1) y0 y1 y2 y3 y4))
 | 0 => ⟨fun _ _ _ _ r h => by simp [incunableref25_reader_text.l0] at h, fun _ _ _ _ _ r h => by simp [incunableref25_reader_text.j1] at h⟩
 | k + 1 => by
  obtain ⟨ih0, ih1⟩ := incunableref25_reader_text.mono_l k
  refine ⟨?_, ?_⟩
  ·intro y0 y1 y2 y3
   unfold incunableref25_reader_text.l0
   repeat' first
   | (with_reducible exact ih0 _ _ _ _)
   | (with_reducible exact ih1 _ _ _ _ _)
   | (with_reducible first | exact LeO.refl _ | exact LeO.none _ | refine LeO.ite ?_ ?_ | refine LeO.bind ?_ (fun _ => ?_))
  ·intro y0 y1 y2 y3 y4
   unfold incunableref25_reader_text.j1
   repeat' first
   | (with_reducible exact ih0 _ _ _ _)
   | (with_reducible exact ih1 _ _ _ _ _)
   | (with_reducible first | exact LeO.refl _ | exact LeO.none _ | refine LeO.ite ?_ ?_ | refine LeO.bind ?_ (fun _ => ?_))
theorem incunableref25_reader_text.mono : ∀ a0 a1 a2 k, LeO (incunableref25_reader_text.f k a0 a1 a2) (incunableref25_reader_text.f (k + 1) a0 a1 a2) := by
 intro a0 a1 a2 k
 obtain ⟨ih0, ih1⟩ := incunableref25_reader_text.mono_l k
 unfold incunableref25_reader_text.f
 repeat' first
   | (with_reducible exact ih0 _ _ _ _)
   | (with_reducible exact ih1 _ _ _ _ _)
   | (with_reducible first | exact LeO.refl _ | exact LeO.none _ | refine LeO.ite ?_ ?_ | refine LeO.bind ?_ (fun _ => ?_))
def incunableref25_reader_text.T3 : Bool × List (List Nat × List Nat) := (true, [([], []), ([0], [0]), ([1], [1]), ([2], [2]), ([], []), ([4], [4]), ([5], [5]), ([6], [6]), ([7], [7]), ([3, 8], [3, 8]), ([9], [9]), ([10], [10]), ([11, 10], [10, 11]), ([12, 10], [10, 12]), ([13, 10], [10, 13]), ([10], [10]), ([15, 10], [10, 15]), ([16, 10], [10, 16]), ([17, 10], [10, 17]), ([14, 18, 10], [10, 14, 18]), ([19, 10], [10, 19]), ([10, 20], [10, 20])])
def incunableref25_reader_text.B3 : List Nat := [0, 1, 3, 7, 0, 16, 48, 112, 240, 511, 1023, 2047, 4095, 8191, 16383, 2047, 34815, 100351, 231423, 524287, 1048575, 2097151]
theorem incunableref25_reader_text.tab3 : rtab .any (opsOf Tryd.f88 3) = incunableref25_reader_text.T3 := by kernel_rfl
theorem incunableref25_reader_text.bits3 : waitsOk incunableref25_reader_text.T3.2 incunableref25_reader_text.B3 = true := by kernel_rfl
def incunableref25_reader_text.T4 : Bool × List (List Nat × List Nat) := (true, [([], []), ([0], [0]), ([1], [1]), ([2], [2]), ([], []), ([4], [4]), ([5], [5]), ([6], [6]), ([3, 7], [3, 7]), ([8], [8])])
def incunableref25_reader_text.B4 : List Nat := [0, 1, 3, 7, 0, 16, 48, 112, 255, 511]
theorem incunableref25_reader_text.tab4 : rtab .any (opsOf Tryd.f88 4) = incunableref25_reader_text.T4 := by kernel_rfl
theorem incunableref25_reader_text.bits4 : waitsOk incunableref25_reader_text.T4.2 incunableref25_reader_text.B4 = true := by kernel_rfl
def incunableref25_reader_text.T6 : Bool × List (List Nat × List Nat) := (true, [([], []), ([0], [0]), ([1], [1]), ([2], [2]), ([], []), ([4], [4]), ([5], [5]), ([6], [6]), ([7], [7]), ([3, 8], [3, 8]), ([9], [9]), ([10], [10]), ([11, 10], [10, 11]), ([12, 10], [10, 12]), ([13, 10], [10, 13]), ([10], [10]), ([15, 10], [10, 15]), ([16, 10], [10, 16]), ([17, 10], [10, 17]), ([14, 18, 10], [10, 14, 18]), ([19, 10], [10, 19]), ([20, 10, 10], [10, 20]), ([21], [21]), ([22, 21], [21, 22]), ([23, 21], [21, 23]), ([24, 21], [21, 24]), ([21], [21]), ([26, 21], [21, 26]), ([27, 21], [21, 27]), ([28, 21], [21, 28]), ([25, 29, 21], [21, 25, 29]), ([30, 21], [21, 30]), ([21, 31, 10], [10, 21, 31]), ([10, 32], [10, 32])])
def incunableref25_reader_text.B6 : List Nat := [0, 1, 3, 7, 0, 16, 48, 112, 240, 511, 1023, 2047, 4095, 8191, 16383, 2047, 34815, 100351, 231423, 524287, 1048575, 2097151, 4194303, 8388607, 16777215, 33554431, 4194303, 71303167, 205520895, 473956351, 1073741823, 2147483647, 4294967295, 8589934591]
theorem incunableref25_reader_text.tab6 : rtab .any (opsOf Tryd.f88 6) = incunableref25_reader_text.T6 := by kernel_rfl
theorem incunableref25_reader_text.bits6 : waitsOk incunableref25_reader_text.T6.2 incunableref25_reader_text.B6 = true := by kernel_rfl
def incunableref25_reader_text.T9 : Bool × List (List Nat × List Nat) := (true, [([], []), ([], []), ([1], [1]), ([2], [2]), ([3], [3]), ([], []), ([5], [5]), ([6], [6]), ([7], [7]), ([4, 8], [4, 8]), ([9], [9]), ([0, 10], [0, 10]), ([11, 11, 0, 1, 2, 3, 4, 5, 6, 7, 8, 9, 10, 11], [0, 11])])
def incunableref25_reader_text.B9 : List Nat := [0, 0, 2, 6, 14, 0, 32, 96, 224, 510, 1022, 2047, 4095]
theorem incunableref25_reader_text.tab9 : rtab .any (opsOf Tryd.f88 9) = incunableref25_reader_text.T9 := by kernel_rfl
theorem incunableref25_reader_text.bits9 : waitsOk incunableref25_reader_text.T9.2 incunableref25_reader_text.B9 = true := by kernel_rfl
def incunableref25_reader_text.T11 : Bool × List (List Nat × List Nat) := (true, [([], []), ([], []), ([1], [1]), ([2], [2]), ([3], [3]), ([4], [4]), ([5], [5]), ([6, 5], [5, 6]), ([7, 5], [5, 7]), ([8, 5], [5, 8]), ([5], [5]), ([10, 5], [5, 10]), ([11, 5], [5, 11]), ([12, 5], [5, 12]), ([13, 5], [5, 13]), ([9, 14, 5], [5, 9, 14]), ([5, 15], [5, 15]), ([16, 5], [16]), ([17], [17]), ([18, 17], [17, 18]), ([19, 17], [17, 19]), ([17, 20], [17, 20]), ([0, 0, 1, 2, 3, 4, 5, 6, 7, 8, 9, 10, 11, 12, 13, 14, 15, 16, 17, 18, 19, 20, 21], [0]), ([22, 0, 1, 2, 3, 4, 5, 6, 7, 8, 9, 10, 11, 12, 13, 14, 15, 16, 17, 18, 19, 20, 21], [22]), ([23, 21, 17, 0, 1, 2, 3, 4, 5, 6, 7, 8, 9, 10, 11, 12, 13, 14, 15, 16, 17, 18, 19, 20, 21], [21, 23])])
def incunableref25_reader_text.B11 : List Nat := [0, 0, 2, 6, 14, 30, 62, 126, 254, 510, 62, 1086, 3134, 7230, 15422, 32766, 65534, 131070, 262142, 524286, 1048574, 2097150, 4194303, 8388607, 16777215]
theorem incunableref25_reader_text.tab11 : rtab .any (opsOf Tryd.f88 11) = incunableref25_reader_text.T11 := by kernel_rfl
theorem incunableref25_reader_text.bits11 : waitsOk incunableref25_reader_text.T11.2 incunableref25_reader_text.B11 = true := by kernel_rfl
set_option maxHeartbeats 8000000 in
set_option maxRecDepth 100000 in
theorem incunableref25_reader_text.calls (k : Nat) (g : Nat) (s0_0 : ByteArray) (s0_1 : Int) (s0_2 : Bool) (r1 : Int) (r2 : ByteArray) (r3 : Int) (r4 : List (S33)) (r5 : ByteArray) (r6 : Int) (r7 : Bool) (w0 w : World) (hI : IsS96 w0 w g s0_0 s0_1 s0_2) (hB : Below w0.heap.size w0 w) (h : incunableref25_reader_text.f k s0_0 s0_1 s0_2 = some (r1, r2, r3, r4, r5, r6, r7)) :
  Calls Tryd.prog 88 #[.pointer (some ⟨g, 0, none⟩)] w fun e w' => ∃ v3_ : Value, e = .returned (.agg #[.int .i64 r1, .string r2, .int .i64 r3, v3_]) ∧ Kd.R k33 33 w' w.heap.size (fun _ => True) v3_ r4 ∧ IsS96 w0 w' g r5 r6 r7 ∧ Below w0.heap.size w0 w' ∧ KeepBut w w' g none := by
 have hu33 := Tryd.underlying33
 have HI0 := Aside0.mk hI
 have GLT := Aside0.mk hI.lt
 have HK := Aside0.mk (KeepBut.refl w g none)
 have HL := Aside0.mk hB.size
 clear hI
 have HW0 := Aside0.mk hB.size
 have HB := Aside0.mk hB
 clear hB
 have H : (incunableref25_reader_text.l0 k ([] : List Int) s0_0 (wrap64 (s0_1 + 1)) s0_2) = some (r1, r2, r3, r4, r5, r6, r7) := h
 clear h
 have H' := Aside0.mk H
 clear H
 go_enter Tryd.func88, Tryd.ntmps88
 go_wp2_with (first | ((with_reducible refine gd 2 rfl ?_); (try (refine gate_guard (by rfl) ?_; dsimp only)); refine bx 2 #[.int .i64 0, .string (⟨#[]⟩ : ByteArray), .int .i64 0, .slice none 0 0] 33 rfl rfl ?_; intro gb127 hg w2 hbox hb; have n_ := aC (IsS96.below (by repeat (first | (with_reducible first | exact HI0.out | apply IsS96.alloc | apply IsS96.drewN | apply IsS96.drew | apply IsS96.set_0 | apply IsS96.set_1 | apply IsS96.set_2) | exact HI0.out)) hb) (aC (KeepBut.trans (by repeat (first | (with_reducible first | exact HK.out | apply KeepBut.set_ | apply keep_drewN | apply keep_drew | apply keep_alloc) | exact HK.out)) (KeepBut.of_below hb g none) (.inl rfl)) (aC (below_step (by repeat (first | (with_reducible first | exact HB.out | apply below_alloc | apply pw_below_drewN | apply below_drew1 | refine below_set ?_ (IsS96.ge HI0.out)) | exact HB.out)) hb) (aC hbox (aC ((by rw [hg]; exact (keep_size (w := w) (g := g) (row := none) (by repeat (first | (with_reducible first | exact HK.out | apply KeepBut.set_ | apply keep_drewN | apply keep_drew | apply keep_alloc) | exact HK.out))) : w.heap.size ≤ gb127)) (aC ((Nat.le_trans HW0.out (by rw [hg]; exact (keep_size (w := w) (g := g) (row := none) (by repeat (first | (with_reducible first | exact HK.out | apply KeepBut.set_ | apply keep_drewN | apply keep_drew | apply keep_alloc) | exact HK.out))) : w.heap.size ≤ gb127) : w0.heap.size ≤ gb127)) (aC ((by rw [hg]; exact Nat.ne_of_lt (IsS96.lt (show IsS96 w0 _ g s0_0 s0_1 s0_2 from by repeat (first | (with_reducible first | exact HI0.out | apply IsS96.alloc | apply IsS96.drewN | apply IsS96.drew | apply IsS96.set_0 | apply IsS96.set_1 | apply IsS96.set_2) | exact HI0.out))) : g ≠ gb127)) (aE ((by rw [hg]; exact Nat.ne_of_gt (IsS96.lt (show IsS96 w0 _ g s0_0 s0_1 s0_2 from by repeat (first | (with_reducible first | exact HI0.out | apply IsS96.alloc | apply IsS96.drewN | apply IsS96.drew | apply IsS96.set_0 | apply IsS96.set_1 | apply IsS96.set_2) | exact HI0.out))) : gb127 ≠ g))))))))); clear HI0 HK HB; obtain ⟨HI0, HK, HB, BK127, GW127, GE127, NB0_127, NB127_0⟩ := n_; clear hb hbox hg; obtain ⟨HGz3, hgz3⟩ := HI0.out; have hcz3_0 := cellS96_0 HGz3; have hcz3_1 := cellS96_1 HGz3; have hcz3_2 := cellS96_2 HGz3; have hfz3_0 := blk_frozen HGz3 0; have hfz3_1 := blk_frozen HGz3 1; have hfz3_2 := blk_frozen HGz3 2; clear HGz3 hgz3))
 go_loopg [3] k (fun kq v3 w' => ∃ (x3_1 : List Int) (x1001_1 : Int) (x1002_1 : Bool) (x128000_1 : Int) (x128001_1 : ByteArray) (x128002_1 : Int), Aside0 (incunableref25_reader_text.l0 kq x3_1 s0_0 x1001_1 x1002_1 = some (r1, r2, r3, r4, r5, r6, r7)) ∧ Aside0 (kq ≤ k) ∧ Aside0 (Kd.R (Kd.int .u8) 5 w' w.heap.size (fun _ => True) v3 x3_1) ∧ Aside0 (w'.heap[gb127]? = some (.cells #[.int .i64 x128000_1, .string x128001_1, .int .i64 x128002_1, (.slice none 0 0)] 33 (0, 0))) ∧ Aside0 (IsS96 w0 w' g s0_0 x1001_1 x1002_1) ∧ Aside0 (KeepBut w w' g none) ∧ Aside0 (Below w0.heap.size w0 w'))
 case atStart => exact ⟨(([] : List Int)), (wrap64 (s0_1 + 1)), (s0_2), (0), ((⟨#[]⟩ : ByteArray)), (0), H', ⟨Nat.le_refl _⟩, ⟨by first | exact Kd.R_nil _ _ _ _ _ | exact Kd.N_nil _ _ _ _ _ | exact Kd.V_nil _ _ _ _ _ | exact Kd.Q_nil _ _ _ _ _ | exact Kd.S_nil _ _ _ _ _⟩, ⟨by (with_reducible repeat (first | refine blk_drewN ?_ _ | refine blk_drew ?_ | refine blk_alloc ?_ _)); refine blk_far ?_ NB127_0.out _; (with_reducible repeat (first | refine blk_drewN ?_ _ | refine blk_drew ?_ | refine blk_alloc ?_ _)); exact BK127.out⟩, ⟨by repeat (first | (with_reducible first | exact HI0.out | apply IsS96.alloc | apply IsS96.drewN | apply IsS96.drew | apply IsS96.set_0 | apply IsS96.set_1 | apply IsS96.set_2 | refine IsS96.far ?_ NB0_127.out _) | exact HI0.out)⟩, ⟨by repeat (first | (with_reducible first | exact HK.out | apply KeepBut.set_ | apply keep_drewN | apply keep_drew | apply keep_alloc | refine keep_far ?_ GW127.out _) | exact HK.out)⟩, ⟨by repeat (first | (with_reducible first | exact HB.out | apply below_alloc | apply pw_below_drewN | apply below_drew1 | refine below_set ?_ (IsS96.ge HI0.out) | refine below_set ?_ GE127.out) | exact HB.out)⟩⟩
 case round =>
  clear H'
  obtain ⟨x3_1, x1001_1, x1002_1, x128000_1, x128001_1, x128002_1, HA, HK1, HO_3, BK127, HI0, HK, HB⟩ := hrel
  cases gk with
  | zero => exact absurd HA.out (by simp [incunableref25_reader_text.l0])
  | succ k1 =>
   have H := HA.out
   clear HA
   simp only [incunableref25_reader_text.l0] at H
   have HC4 := Aside0.mk H
   clear H
   go_upto_region 3 with (fail)
   go_cut [32] (fun v32 wc => ∃ (kq : Nat) (x32_3 : Bool), v32 = .bool x32_3 ∧ Aside0 (incunableref25_reader_text.j1 kq x3_1 x32_3 s0_0 x1001_1 x1002_1 = some (r1, r2, r3, r4, r5, r6, r7)) ∧ Aside0 (kq ≤ k1) ∧ Aside0 (Kd.R (Kd.int .u8) 5 wc w.heap.size (fun _ => True) u3 x3_1) ∧ Aside0 (wc.heap[gb127]? = some (.cells #[.int .i64 x128000_1, .string x128001_1, .int .i64 x128002_1, (.slice none 0 0)] 33 (0, 0))) ∧ Aside0 (IsS96 w0 wc g s0_0 x1001_1 x1002_1) ∧ Aside0 (KeepBut w wc g none) ∧ Aside0 (Below w0.heap.size w0 wc))
   case first =>
    have H := HC4.out
    clear HC4
    rcases iL H with H1 | H1 <;> clear H <;> obtain ⟨H, c5b0⟩ := H1
    ·(first | rw [c5b0] | (simp only [i64_w, i32_w]; rw [c5b0]) | skip)
     by_cases c6 : 0 ≤ x1001_1
     ·rw [if_pos c6] at H
      have c6b0 := decide_eq_true c6
      clear c6
      have H' := Aside0.mk H
      clear H
      try go_wp2
      have n_ := aC (Kd.R_drew HO_3.out) (aC (blk_drew BK127.out) (aC (IsS96.drew HI0.out) (aC (keep_drew HK.out) (aE (below_drew1 HB.out)))))
      clear HO_3 BK127 HI0 HK HB
      obtain ⟨HO_3, BK127, HI0, HK, HB⟩ := n_
      have p7 : 0 ≤ (x1001_1 : Int) := dt
      have q7 : x1001_1 < (s0_0.size : Int) := dt
      have hx7 := bt_at s0_0 x1001_1
      replace p7 := eq_true p7
      replace q7 := eq_true q7
      refine st 22 (fun w' => w'.cell? ⟨g, 0, none⟩ = some (.string s0_0) ∧ w'.cell? ⟨g, 1, none⟩ = some (.int .i64 x1001_1) ∧ w'.cell? ⟨g, 2, none⟩ = some (.bool x1002_1)) [] (bv 22 0) incunableref25_reader_text.tab3 incunableref25_reader_text.bits3 ⟨(blk_cell (Aside0.mk HI0.out.1).out 0).trans rfl, (blk_cell (Aside0.mk HI0.out.1).out 1).trans rfl, (blk_cell (Aside0.mk HI0.out.1).out 2).trans rfl⟩ (fun hHeld HT_ HW_ => ?_)
      generalize wr.drew = w8 at HO_3 BK127 HI0 HK HB hHeld ⊢
      refine pu 0 11 (bv 22 1) HT_ rfl rfl ?_
      refine pu 1 12 (bv 22 3) HT_ rfl rfl ?_
      refine pu 2 13 (bv 22 7) HT_ rfl rfl ?_
      refine pu 4 15 (bv 22 23) HT_ rfl rfl ?_
      refine pu 5 16 (bv 22 55) HT_ rfl rfl ?_
      refine pu 6 17 (bv 22 119) HT_ rfl rfl ?_
      refine tk 3 14 (bv 22 127) HT_ HW_ hHeld rfl rfl (by rintro w' ⟨s0, s1, s2⟩; exact yl) ?_
      refine tk 7 18 (bv 22 255) HT_ HW_ hHeld rfl rfl (by rintro w' ⟨s0, s1, s2⟩; exact yl) ?_
      refine pu 8 19 (bv 22 511) HT_ rfl rfl ?_
      refine pu 9 20 (bv 22 1023) HT_ rfl rfl ?_
      refine pu 10 21 (bv 22 2047) HT_ rfl rfl ?_
      refine pu 11 22 (bv 22 4095) HT_ rfl rfl ?_
      refine pu 12 23 (bv 22 8191) HT_ rfl rfl ?_
      refine pu 13 24 (bv 22 16383) HT_ rfl rfl ?_
      refine pu 15 26 (bv 22 49151) HT_ rfl rfl ?_
      refine pu 16 27 (bv 22 114687) HT_ rfl rfl ?_
      refine pu 17 28 (bv 22 245759) HT_ rfl rfl ?_
      refine tk 14 25 (bv 22 262143) HT_ HW_ hHeld rfl rfl (by rintro w' ⟨s0, s1, s2⟩; exact yl) ?_
      refine tk 18 29 (bv 22 524287) HT_ HW_ hHeld rfl rfl (by rintro w' ⟨s0, s1, s2⟩; exact yl) ?_
      refine tk 19 30 (bv 22 1048575) HT_ HW_ hHeld rfl rfl (by rintro w' ⟨s0, s1, s2⟩; exact yl) ?_
      refine pu 20 31 (bv 22 2097151) HT_ rfl rfl ?_
      refine pu 21 32 (bv 22 4194303) HT_ rfl rfl ?_
      refine done_ (done_of HT_.out (by kernel_rfl)) ?_
      try go_wp2
      go_meet
      case rel => exact ⟨_, (((bt s0_0 x1001_1) != 34)), rq, H', ⟨by have := HK1.out; first | omega | exact Nat.le_refl _⟩, ⟨rU HO_3.out⟩, ⟨bU BK127.out⟩, ⟨by repeat (first | (with_reducible first | exact HI0.out | apply IsS96.alloc | apply IsS96.drewN | apply IsS96.drew | apply IsS96.set_0 | apply IsS96.set_1 | apply IsS96.set_2 | refine IsS96.far ?_ NB0_127.out _) | exact HI0.out)⟩, ⟨by repeat (first | (with_reducible first | exact HK.out | apply KeepBut.set_ | apply keep_drewN | apply keep_drew | apply keep_alloc | refine keep_far ?_ GW127.out _) | exact HK.out)⟩, ⟨by repeat (first | (with_reducible first | exact HB.out | apply below_alloc | apply pw_below_drewN | apply below_drew1 | refine below_set ?_ (IsS96.ge HI0.out) | refine below_set ?_ GE127.out) | exact HB.out)⟩⟩
     ·rw [if_neg c6] at H
      exact absurd H (by simp)
    ·(first | rw [c5b0] | (simp only [i64_w, i32_w]; rw [c5b0]) | skip)
     have H' := Aside0.mk H
     clear H
     try go_wp2
     have n_ := aC (Kd.R_drew HO_3.out) (aC (blk_drew BK127.out) (aC (IsS96.drew HI0.out) (aC (keep_drew HK.out) (aE (below_drew1 HB.out)))))
     clear HO_3 BK127 HI0 HK HB
     obtain ⟨HO_3, BK127, HI0, HK, HB⟩ := n_
     refine st 22 (fun w' => w'.cell? ⟨g, 0, none⟩ = some (.string s0_0) ∧ w'.cell? ⟨g, 1, none⟩ = some (.int .i64 x1001_1) ∧ w'.cell? ⟨g, 2, none⟩ = some (.bool x1002_1)) [] (bv 22 0) incunableref25_reader_text.tab3 incunableref25_reader_text.bits3 ⟨(blk_cell (Aside0.mk HI0.out.1).out 0).trans rfl, (blk_cell (Aside0.mk HI0.out.1).out 1).trans rfl, (blk_cell (Aside0.mk HI0.out.1).out 2).trans rfl⟩ (fun hHeld HT_ HW_ => ?_)
     generalize wr.drew = w9 at HO_3 BK127 HI0 HK HB hHeld ⊢
     refine pu 0 11 (bv 22 1) HT_ rfl rfl ?_
     refine pu 1 12 (bv 22 3) HT_ rfl rfl ?_
     refine pu 2 13 (bv 22 7) HT_ rfl rfl ?_
     refine pu 4 15 (bv 22 23) HT_ rfl rfl ?_
     refine pu 5 16 (bv 22 55) HT_ rfl rfl ?_
     refine pu 6 17 (bv 22 119) HT_ rfl rfl ?_
     refine tk 3 14 (bv 22 127) HT_ HW_ hHeld rfl rfl (by rintro w' ⟨s0, s1, s2⟩; exact yl) ?_
     refine tk 7 18 (bv 22 255) HT_ HW_ hHeld rfl rfl (by rintro w' ⟨s0, s1, s2⟩; exact yl) ?_
     refine pu 8 19 (bv 22 511) HT_ rfl rfl ?_
     refine pu 9 20 (bv 22 1023) HT_ rfl rfl ?_
     refine pu 10 21 (bv 22 2047) HT_ rfl rfl ?_
     refine pn 11 22 (bv 22 4095) HT_ rfl rfl ?_
     refine pn 12 23 (bv 22 8191) HT_ rfl rfl ?_
     refine pn 13 24 (bv 22 16383) HT_ rfl rfl ?_
     refine pn 14 25 (bv 22 32767) HT_ rfl rfl ?_
     refine pn 15 26 (bv 22 65535) HT_ rfl rfl ?_
     refine pn 16 27 (bv 22 131071) HT_ rfl rfl ?_
     refine pn 17 28 (bv 22 262143) HT_ rfl rfl ?_
     refine pn 18 29 (bv 22 524287) HT_ rfl rfl ?_
     refine pn 19 30 (bv 22 1048575) HT_ rfl rfl ?_
     refine pn 20 31 (bv 22 2097151) HT_ rfl rfl ?_
     refine pu 21 32 (bv 22 4194303) HT_ rfl rfl ?_
     refine done_ (done_of HT_.out (by kernel_rfl)) ?_
     try go_wp2
     go_meet
     case rel => exact ⟨_, (false), rq, H', ⟨by have := HK1.out; first | omega | exact Nat.le_refl _⟩, ⟨rU HO_3.out⟩, ⟨bU BK127.out⟩, ⟨by repeat (first | (with_reducible first | exact HI0.out | apply IsS96.alloc | apply IsS96.drewN | apply IsS96.drew | apply IsS96.set_0 | apply IsS96.set_1 | apply IsS96.set_2 | refine IsS96.far ?_ NB0_127.out _) | exact HI0.out)⟩, ⟨by repeat (first | (with_reducible first | exact HK.out | apply KeepBut.set_ | apply keep_drewN | apply keep_drew | apply keep_alloc | refine keep_far ?_ GW127.out _) | exact HK.out)⟩, ⟨by repeat (first | (with_reducible first | exact HB.out | apply below_alloc | apply pw_below_drewN | apply below_drew1 | refine below_set ?_ (IsS96.ge HI0.out) | refine below_set ?_ GE127.out) | exact HB.out)⟩⟩
   case rest =>
    clear HC4
    obtain ⟨kq, x32_3, rfl, HA, HJ3, HO_3, BK127, HI0, HK, HB⟩ := hcut
    cases kq with
    | zero => exact absurd HA.out (by simp [incunableref25_reader_text.j1])
    | succ kj3 =>
     have H := HA.out
     clear HA
     simp only [incunableref25_reader_text.j1] at H
     by_cases c10 : x32_3 = true
     ·subst c10
      rw [if_pos rfl] at H
      by_cases c11 : 0 ≤ x1001_1
      ·rw [if_pos c11] at H
       have c11b0 := decide_eq_true c11
       clear c11
       by_cases c12 : x1001_1 < (s0_0.size : Int)
       ·rw [if_pos c12] at H
        have c12b0 := decide_eq_true c12
        clear c12
        rcases iE H with H1 | H1 <;> clear H <;> obtain ⟨H, c14b0, c14b1, c14⟩ := H1
        ·rcases iL H with H1 | H1 <;> clear H <;> obtain ⟨H, c15b0⟩ := H1
         ·simp only [Option.some.injEq, Prod.mk.injEq] at H
          obtain ⟨rfl, rfl, rfl, rfl, rfl, rfl, rfl⟩ := H
          try go_wp2
          have n_ := aC (Kd.R_drew HO_3.out) (aC (blk_drew BK127.out) (aC (IsS96.drew HI0.out) (aC (keep_drew HK.out) (aE (below_drew1 HB.out)))))
          clear HO_3 BK127 HI0 HK HB
          obtain ⟨HO_3, BK127, HI0, HK, HB⟩ := n_
          have p13 : 0 ≤ (x1001_1 : Int) := dt
          have q13 : x1001_1 < (s0_0.size : Int) := dt
          have hx13 := bt_at s0_0 x1001_1
          replace p13 := eq_true p13
          replace q13 := eq_true q13
          refine st 10 (fun w' => w'.cell? ⟨g, 0, none⟩ = some (.string s0_0) ∧ w'.cell? ⟨g, 1, none⟩ = some (.int .i64 x1001_1) ∧ w'.cell? ⟨g, 2, none⟩ = some (.bool x1002_1)) [] (bv 10 0) incunableref25_reader_text.tab4 incunableref25_reader_text.bits4 ⟨(blk_cell (Aside0.mk HI0.out.1).out 0).trans rfl, (blk_cell (Aside0.mk HI0.out.1).out 1).trans rfl, (blk_cell (Aside0.mk HI0.out.1).out 2).trans rfl⟩ (fun hHeld HT_ HW_ => ?_)
          generalize wc.drew = w16 at HO_3 BK127 HI0 HK HB hHeld ⊢
          refine pu 0 33 (bv 10 1) HT_ rfl rfl ?_
          refine pu 1 34 (bv 10 3) HT_ rfl rfl ?_
          refine pu 2 35 (bv 10 7) HT_ rfl rfl ?_
          refine pu 4 37 (bv 10 23) HT_ rfl rfl ?_
          refine pu 5 38 (bv 10 55) HT_ rfl rfl ?_
          refine pu 6 39 (bv 10 119) HT_ rfl rfl ?_
          refine tk 3 36 (bv 10 127) HT_ HW_ hHeld rfl rfl (by rintro w' ⟨s0, s1, s2⟩; exact yl) ?_
          refine tk 7 40 (bv 10 255) HT_ HW_ hHeld rfl rfl (by rintro w' ⟨s0, s1, s2⟩; exact yl) ?_
          refine tk 8 41 (bv 10 511) HT_ HW_ hHeld rfl rfl (by rintro w' ⟨s0, s1, s2⟩; exact yl) ?_
          refine pu 9 42 (bv 10 1023) HT_ rfl rfl ?_
          refine done_ (done_of HT_.out (by kernel_rfl)) ?_
          obtain ⟨HGz17, hgz17⟩ := HI0.out
          have hcz17_0 := cellS96_0 HGz17
          have hcz17_1 := cellS96_1 HGz17
          have hcz17_2 := cellS96_2 HGz17
          have hfz17_0 := blk_frozen HGz17 0
          have hfz17_1 := blk_frozen HGz17 1
          have hfz17_2 := blk_frozen HGz17 2
          clear HGz17 hgz17
          try go_wp2
          have n0_ : Aside0 (Kd.R (Kd.int .u8) 5 (w16.setCell ⟨g, 1, none⟩ (.int .i64 (wrap64 (x1001_1 + 1)))) w.heap.size (fun _ => True) u3 x3_1) := ⟨rU (Kd.R_mono (Kd.R_far (p := ⟨g, 1, none⟩) (IsS96.apart HI0.out HO_3.out (by decide)) (fun _ hk => hk.2) (.int .i64 (wrap64 (x1001_1 + 1)))) (fun _ hk => trivial))⟩
          have n1_ : Aside0 ((w16.setCell ⟨g, 1, none⟩ (.int .i64 (wrap64 (x1001_1 + 1)))).heap[gb127]? = some (.cells #[.int .i64 x128000_1, .string x128001_1, .int .i64 x128002_1, .slice none 0 0] 33 (0, 0))) := ⟨by (with_reducible repeat (first | refine blk_drewN ?_ _ | refine blk_drew ?_ | refine blk_alloc ?_ _)); refine blk_far ?_ NB127_0.out _; (with_reducible repeat (first | refine blk_drewN ?_ _ | refine blk_drew ?_ | refine blk_alloc ?_ _)); exact BK127.out⟩
          have n2_ : Aside0 (IsS96 w0 (w16.setCell ⟨g, 1, none⟩ (.int .i64 (wrap64 (x1001_1 + 1)))) g s0_0 (wrap64 (x1001_1 + 1)) x1002_1) := ⟨by repeat (first | (with_reducible first | exact HI0.out | apply IsS96.alloc | apply IsS96.drewN | apply IsS96.drew | apply IsS96.set_0 | apply IsS96.set_1 | apply IsS96.set_2 | refine IsS96.far ?_ NB0_127.out _) | exact HI0.out)⟩
          have n3_ : Aside0 (KeepBut w (w16.setCell ⟨g, 1, none⟩ (.int .i64 (wrap64 (x1001_1 + 1)))) g none) := ⟨by repeat (first | (with_reducible first | exact HK.out | apply KeepBut.set_ | apply keep_drewN | apply keep_drew | apply keep_alloc | refine keep_far ?_ GW127.out _) | exact HK.out)⟩
          have n4_ : Aside0 (Below w0.heap.size w0 (w16.setCell ⟨g, 1, none⟩ (.int .i64 (wrap64 (x1001_1 + 1))))) := ⟨by repeat (first | (with_reducible first | exact HB.out | apply below_alloc | apply pw_below_drewN | apply below_drew1 | refine below_set ?_ (IsS96.ge HI0.out) | refine below_set ?_ GE127.out) | exact HB.out)⟩
          (try clear HO_3)
          (try clear BK127)
          (try clear HI0)
          (try clear HK)
          (try clear HB)
          generalize (w16.setCell ⟨g, 1, none⟩ (.int .i64 (wrap64 (x1001_1 + 1)))) = w18 at n0_ n1_ n2_ n3_ n4_ ⊢
          have HO_3 := n0_
          have BK127 := n1_
          have HI0 := n2_
          have HK := n3_
          have HB := n4_
          clear n0_ n1_ n2_ n3_ n4_
          have n_ := aC (Kd.R_drew HO_3.out) (aC (blk_drew BK127.out) (aC (IsS96.drew HI0.out) (aC (keep_drew HK.out) (aE (below_drew1 HB.out)))))
          clear HO_3 BK127 HI0 HK HB
          obtain ⟨HO_3, BK127, HI0, HK, HB⟩ := n_
          refine st 34 (fun w' => w'.cell? ⟨g, 0, none⟩ = some (.string s0_0) ∧ w'.cell? ⟨g, 1, none⟩ = some (.int .i64 (wrap64 (x1001_1 + 1))) ∧ w'.cell? ⟨g, 2, none⟩ = some (.bool x1002_1)) [] (bv 34 0) incunableref25_reader_text.tab6 incunableref25_reader_text.bits6 ⟨(blk_cell (Aside0.mk HI0.out.1).out 0).trans rfl, (blk_cell (Aside0.mk HI0.out.1).out 1).trans rfl, (blk_cell (Aside0.mk HI0.out.1).out 2).trans rfl⟩ (fun hHeld HT_ HW_ => ?_)
          generalize w18.drew = w19 at HO_3 BK127 HI0 HK HB hHeld ⊢
          refine pu 0 50 (bv 34 1) HT_ rfl rfl ?_
          refine pu 1 51 (bv 34 3) HT_ rfl rfl ?_
          refine pu 2 52 (bv 34 7) HT_ rfl rfl ?_
          refine pu 4 54 (bv 34 23) HT_ rfl rfl ?_
          refine pu 5 55 (bv 34 55) HT_ rfl rfl ?_
          refine pu 6 56 (bv 34 119) HT_ rfl rfl ?_
          refine tk 3 53 (bv 34 127) HT_ HW_ hHeld rfl rfl (by rintro w' ⟨s0, s1, s2⟩; exact yl) ?_
          refine tk 7 57 (bv 34 255) HT_ HW_ hHeld rfl rfl (by rintro w' ⟨s0, s1, s2⟩; exact yl) ?_
          refine pu 8 58 (bv 34 511) HT_ rfl rfl ?_
          refine pu 9 59 (bv 34 1023) HT_ rfl rfl ?_
          refine pu 10 60 (bv 34 2047) HT_ rfl rfl ?_
          refine pn 11 61 (bv 34 4095) HT_ rfl rfl ?_
          refine pn 12 62 (bv 34 8191) HT_ rfl rfl ?_
          refine pn 13 63 (bv 34 16383) HT_ rfl rfl ?_
          refine pn 14 64 (bv 34 32767) HT_ rfl rfl ?_
          refine pn 15 65 (bv 34 65535) HT_ rfl rfl ?_
          refine pn 16 66 (bv 34 131071) HT_ rfl rfl ?_
          refine pn 17 67 (bv 34 262143) HT_ rfl rfl ?_
          refine pn 18 68 (bv 34 524287) HT_ rfl rfl ?_
          refine pn 19 69 (bv 34 1048575) HT_ rfl rfl ?_
          refine pn 20 70 (bv 34 2097151) HT_ rfl rfl ?_
          refine pn 21 71 (bv 34 4194303) HT_ rfl rfl ?_
          refine pn 22 72 (bv 34 8388607) HT_ rfl rfl ?_
          refine pn 23 73 (bv 34 16777215) HT_ rfl rfl ?_
          refine pn 24 74 (bv 34 33554431) HT_ rfl rfl ?_
          refine pn 25 75 (bv 34 67108863) HT_ rfl rfl ?_
          refine pn 26 76 (bv 34 134217727) HT_ rfl rfl ?_
          refine pn 27 77 (bv 34 268435455) HT_ rfl rfl ?_
          refine pn 28 78 (bv 34 536870911) HT_ rfl rfl ?_
          refine pn 29 79 (bv 34 1073741823) HT_ rfl rfl ?_
          refine pn 30 80 (bv 34 2147483647) HT_ rfl rfl ?_
          refine pn 31 81 (bv 34 4294967295) HT_ rfl rfl ?_
          refine pn 32 82 (bv 34 8589934591) HT_ rfl rfl ?_
          refine pu 33 83 (bv 34 17179869183) HT_ rfl rfl ?_
          refine done_ (done_of HT_.out (by kernel_rfl)) ?_
          obtain ⟨HGz20, hgz20⟩ := HI0.out
          have hcz20_0 := cellS96_0 HGz20
          have hcz20_1 := cellS96_1 HGz20
          have hcz20_2 := cellS96_2 HGz20
          have hfz20_0 := blk_frozen HGz20 0
          have hfz20_1 := blk_frozen HGz20 1
          have hfz20_2 := blk_frozen HGz20 2
          clear HGz20 hgz20
          have hnb21 := NB127_0.out
          have hnc21 := NB0_127.out
          obtain ⟨hcz22_0, hcz22_1, hcz22_2, hcz22_3, hfz22_0, hfz22_1, hfz22_2, hfz22_3⟩ := cz4f BK127.out
          try go_wp2
          refine bodyPost_ret (results_cell_row rfl _ _ gb127 33 #[.int .i64 0, .string (⟨#[]⟩ : ByteArray), .int .i64 0, .slice none 0 0] (0, 0) _ rfl (by (with_reducible repeat (first | refine blk_drewN ?_ _ | refine blk_drew ?_ | refine blk_alloc ?_ _)); refine blk_put (cs := #[.int .i64 0, .string (⟨#[]⟩ : ByteArray), .int .i64 0, .slice none 0 0]) ?_ 3 _ rfl; (with_reducible repeat (first | refine blk_drewN ?_ _ | refine blk_drew ?_ | refine blk_alloc ?_ _)); refine blk_put (cs := #[.int .i64 0, .string (⟨#[]⟩ : ByteArray), .int .i64 x128002_1, .slice none 0 0]) ?_ 2 _ rfl; (with_reducible repeat (first | refine blk_drewN ?_ _ | refine blk_drew ?_ | refine blk_alloc ?_ _)); refine blk_put (cs := #[.int .i64 0, .string x128001_1, .int .i64 x128002_1, .slice none 0 0]) ?_ 1 _ rfl; (with_reducible repeat (first | refine blk_drewN ?_ _ | refine blk_drew ?_ | refine blk_alloc ?_ _)); refine blk_put (cs := #[.int .i64 x128000_1, .string x128001_1, .int .i64 x128002_1, .slice none 0 0]) ?_ 0 _ rfl; (with_reducible repeat (first | refine blk_drewN ?_ _ | refine blk_drew ?_ | refine blk_alloc ?_ _)); refine blk_far ?_ NB127_0.out _; (with_reducible repeat (first | refine blk_drewN ?_ _ | refine blk_drew ?_ | refine blk_alloc ?_ _)); exact BK127.out) Tryd.underlying33 rfl (by kernel_rfl)) rfl ?_
          exact ⟨_, re, by first | exact Kd.R_nil _ _ _ _ _ | exact Kd.N_nil _ _ _ _ _ | exact Kd.V_nil _ _ _ _ _ | exact Kd.Q_nil _ _ _ _ _ | exact Kd.S_nil _ _ _ _ _, by repeat (first | (with_reducible first | exact HI0.out | apply IsS96.alloc | apply IsS96.drewN | apply IsS96.drew | apply IsS96.set_0 | apply IsS96.set_1 | apply IsS96.set_2 | refine IsS96.far ?_ NB0_127.out _) | exact HI0.out), by repeat (first | (with_reducible first | exact HB.out | apply below_alloc | apply pw_below_drewN | apply below_drew1 | refine below_set ?_ (IsS96.ge HI0.out) | refine below_set ?_ GE127.out) | exact HB.out), by repeat (first | (with_reducible first | exact HK.out | apply KeepBut.set_ | apply keep_drewN | apply keep_drew | apply keep_alloc | refine keep_far ?_ GW127.out _) | exact HK.out)⟩
         ·obtain ⟨ji23, hji23⟩ : ∃ j_ : Int, (wrap64 (x1001_1 + 1)) = j_ := ⟨_, rfl⟩
          replace H : (if 0 ≤ (ji23) then (if (ji23) < (s0_0.size : Int) then (if (bt s0_0 (ji23)) = 34 then (if x3_1.length < 140737488355328 then (incunableref25_reader_text.l0 kj3 (x3_1 ++ [bt s0_0 (ji23)]) s0_0 (wrap64 ((ji23) + 1)) x1002_1) else (none)) else (if (bt s0_0 (ji23)) = 92 then (if x3_1.length < 140737488355328 then (incunableref25_reader_text.l0 kj3 (x3_1 ++ [bt s0_0 (ji23)]) s0_0 (wrap64 ((ji23) + 1)) x1002_1) else (none)) else (some (0, (⟨#[]⟩ : ByteArray), 0, ([] : List (S33)), s0_0, ji23, true)))) else (none)) else (none)) = some (r1, r2, r3, r4, r5, r6, r7) := by first | (rw [hji23] at H; exact H) | (simp only [hji23] at H ⊢; exact H)
          (try rw [hji23] at c15b0)
          have hji23w : (IntKind.i64.wrap (x1001_1 + 1)) = ji23 := (i64_w _).trans hji23
          by_cases c24 : 0 ≤ (ji23)
          ·rw [if_pos c24] at H
           have c24b0 := decide_eq_true c24
           clear c24
           by_cases c25 : (ji23) < (s0_0.size : Int)
           ·rw [if_pos c25] at H
            have c25b0 := decide_eq_true c25
            clear c25
            rcases iE H with H1 | H1 <;> clear H <;> obtain ⟨H, c27b0, c27b1, c27⟩ := H1
            ·by_cases c29 : x3_1.length < 140737488355328
             ·rw [if_pos c29] at H
              have LMc29 := Aside0.mk c29
              clear c29
              obtain ⟨y128, hy_⟩ : ∃ y_ : List Int, y_ = (x3_1 ++ [bt s0_0 (ji23)]) := ⟨_, rfl⟩
              replace H : (incunableref25_reader_text.l0 kj3 y128 s0_0 (wrap64 ((ji23) + 1)) x1002_1) = some (r1, r2, r3, r4, r5, r6, r7) := rh
              have Ny128 := aE hy_
              clear hy_
              have H' := Aside0.mk H
              clear H
              try go_wp2
              have n_ := aC (Kd.R_drew HO_3.out) (aC (blk_drew BK127.out) (aC (IsS96.drew HI0.out) (aC (keep_drew HK.out) (aE (below_drew1 HB.out)))))
              clear HO_3 BK127 HI0 HK HB
              obtain ⟨HO_3, BK127, HI0, HK, HB⟩ := n_
              have p13 : 0 ≤ (x1001_1 : Int) := dt
              have q13 : x1001_1 < (s0_0.size : Int) := dt
              have hx13 := bt_at s0_0 x1001_1
              replace p13 := eq_true p13
              replace q13 := eq_true q13
              refine st 10 (fun w' => w'.cell? ⟨g, 0, none⟩ = some (.string s0_0) ∧ w'.cell? ⟨g, 1, none⟩ = some (.int .i64 x1001_1) ∧ w'.cell? ⟨g, 2, none⟩ = some (.bool x1002_1)) [] (bv 10 0) incunableref25_reader_text.tab4 incunableref25_reader_text.bits4 ⟨(blk_cell (Aside0.mk HI0.out.1).out 0).trans rfl, (blk_cell (Aside0.mk HI0.out.1).out 1).trans rfl, (blk_cell (Aside0.mk HI0.out.1).out 2).trans rfl⟩ (fun hHeld HT_ HW_ => ?_)
              generalize wc.drew = w30 at HO_3 BK127 HI0 HK HB hHeld ⊢
              refine pu 0 33 (bv 10 1) HT_ rfl rfl ?_
              refine pu 1 34 (bv 10 3) HT_ rfl rfl ?_
              refine pu 2 35 (bv 10 7) HT_ rfl rfl ?_
              refine pu 4 37 (bv 10 23) HT_ rfl rfl ?_
              refine pu 5 38 (bv 10 55) HT_ rfl rfl ?_
              refine pu 6 39 (bv 10 119) HT_ rfl rfl ?_
              refine tk 3 36 (bv 10 127) HT_ HW_ hHeld rfl rfl (by rintro w' ⟨s0, s1, s2⟩; exact yl) ?_
              refine tk 7 40 (bv 10 255) HT_ HW_ hHeld rfl rfl (by rintro w' ⟨s0, s1, s2⟩; exact yl) ?_
              refine tk 8 41 (bv 10 511) HT_ HW_ hHeld rfl rfl (by rintro w' ⟨s0, s1, s2⟩; exact yl) ?_
              refine pu 9 42 (bv 10 1023) HT_ rfl rfl ?_
              refine done_ (done_of HT_.out (by kernel_rfl)) ?_
              obtain ⟨HGz31, hgz31⟩ := HI0.out
              have hcz31_0 := cellS96_0 HGz31
              have hcz31_1 := cellS96_1 HGz31
              have hcz31_2 := cellS96_2 HGz31
              have hfz31_0 := blk_frozen HGz31 0
              have hfz31_1 := blk_frozen HGz31 1
              have hfz31_2 := blk_frozen HGz31 2
              clear HGz31 hgz31
              try go_wp2
              have n0_ : Aside0 (Kd.R (Kd.int .u8) 5 (w30.setCell ⟨g, 1, none⟩ (.int .i64 ji23)) w.heap.size (fun _ => True) u3 x3_1) := ⟨rU (Kd.R_mono (Kd.R_far (p := ⟨g, 1, none⟩) (IsS96.apart HI0.out HO_3.out (by decide)) (fun _ hk => hk.2) (.int .i64 ji23)) (fun _ hk => trivial))⟩
              have n1_ : Aside0 ((w30.setCell ⟨g, 1, none⟩ (.int .i64 ji23)).heap[gb127]? = some (.cells #[.int .i64 x128000_1, .string x128001_1, .int .i64 x128002_1, .slice none 0 0] 33 (0, 0))) := ⟨by (with_reducible repeat (first | refine blk_drewN ?_ _ | refine blk_drew ?_ | refine blk_alloc ?_ _)); refine blk_far ?_ NB127_0.out _; (with_reducible repeat (first | refine blk_drewN ?_ _ | refine blk_drew ?_ | refine blk_alloc ?_ _)); exact BK127.out⟩
              have n2_ : Aside0 (IsS96 w0 (w30.setCell ⟨g, 1, none⟩ (.int .i64 ji23)) g s0_0 ji23 x1002_1) := ⟨by repeat (first | (with_reducible first | exact HI0.out | apply IsS96.alloc | apply IsS96.drewN | apply IsS96.drew | apply IsS96.set_0 | apply IsS96.set_1 | apply IsS96.set_2 | refine IsS96.far ?_ NB0_127.out _) | exact HI0.out)⟩
              have n3_ : Aside0 (KeepBut w (w30.setCell ⟨g, 1, none⟩ (.int .i64 ji23)) g none) := ⟨by repeat (first | (with_reducible first | exact HK.out | apply KeepBut.set_ | apply keep_drewN | apply keep_drew | apply keep_alloc | refine keep_far ?_ GW127.out _) | exact HK.out)⟩
              have n4_ : Aside0 (Below w0.heap.size w0 (w30.setCell ⟨g, 1, none⟩ (.int .i64 ji23))) := ⟨by repeat (first | (with_reducible first | exact HB.out | apply below_alloc | apply pw_below_drewN | apply below_drew1 | refine below_set ?_ (IsS96.ge HI0.out) | refine below_set ?_ GE127.out) | exact HB.out)⟩
              (try clear HO_3)
              (try clear BK127)
              (try clear HI0)
              (try clear HK)
              (try clear HB)
              generalize (w30.setCell ⟨g, 1, none⟩ (.int .i64 ji23)) = w32 at n0_ n1_ n2_ n3_ n4_ ⊢
              have HO_3 := n0_
              have BK127 := n1_
              have HI0 := n2_
              have HK := n3_
              have HB := n4_
              clear n0_ n1_ n2_ n3_ n4_
              have n_ := aC (Kd.R_drew HO_3.out) (aC (blk_drew BK127.out) (aC (IsS96.drew HI0.out) (aC (keep_drew HK.out) (aE (below_drew1 HB.out)))))
              clear HO_3 BK127 HI0 HK HB
              obtain ⟨HO_3, BK127, HI0, HK, HB⟩ := n_
              have p26 : 0 ≤ ((ji23) : Int) := dt
              have q26 : (ji23) < (s0_0.size : Int) := dt
              have hx26 := bt_at s0_0 (ji23)
              replace p26 := eq_true p26
              replace q26 := eq_true q26
              refine st 34 (fun w' => w'.cell? ⟨g, 0, none⟩ = some (.string s0_0) ∧ w'.cell? ⟨g, 1, none⟩ = some (.int .i64 ji23) ∧ w'.cell? ⟨g, 2, none⟩ = some (.bool x1002_1)) [] (bv 34 0) incunableref25_reader_text.tab6 incunableref25_reader_text.bits6 ⟨(blk_cell (Aside0.mk HI0.out.1).out 0).trans rfl, (blk_cell (Aside0.mk HI0.out.1).out 1).trans rfl, (blk_cell (Aside0.mk HI0.out.1).out 2).trans rfl⟩ (fun hHeld HT_ HW_ => ?_)
              generalize w32.drew = w33 at HO_3 BK127 HI0 HK HB hHeld ⊢
              refine pu 0 50 (bv 34 1) HT_ rfl rfl ?_
              refine pu 1 51 (bv 34 3) HT_ rfl rfl ?_
              refine pu 2 52 (bv 34 7) HT_ rfl rfl ?_
              refine pu 4 54 (bv 34 23) HT_ rfl rfl ?_
              refine pu 5 55 (bv 34 55) HT_ rfl rfl ?_
              refine pu 6 56 (bv 34 119) HT_ rfl rfl ?_
              refine tk 3 53 (bv 34 127) HT_ HW_ hHeld rfl rfl (by rintro w' ⟨s0, s1, s2⟩; exact yl) ?_
              refine tk 7 57 (bv 34 255) HT_ HW_ hHeld rfl rfl (by rintro w' ⟨s0, s1, s2⟩; exact yl) ?_
              refine pu 8 58 (bv 34 511) HT_ rfl rfl ?_
              refine pu 9 59 (bv 34 1023) HT_ rfl rfl ?_
              refine pu 10 60 (bv 34 2047) HT_ rfl rfl ?_
              refine pu 11 61 (bv 34 4095) HT_ rfl rfl ?_
              refine pu 12 62 (bv 34 8191) HT_ rfl rfl ?_
              refine pu 13 63 (bv 34 16383) HT_ rfl rfl ?_
              refine pu 15 65 (bv 34 49151) HT_ rfl rfl ?_
              refine pu 16 66 (bv 34 114687) HT_ rfl rfl ?_
              refine pu 17 67 (bv 34 245759) HT_ rfl rfl ?_
              refine tk 14 64 (bv 34 262143) HT_ HW_ hHeld rfl rfl (by rintro w' ⟨s0, s1, s2⟩; exact yl) ?_
              refine tk 18 68 (bv 34 524287) HT_ HW_ hHeld rfl rfl (by rintro w' ⟨s0, s1, s2⟩; exact yl) ?_
              refine tk 19 69 (bv 34 1048575) HT_ HW_ hHeld rfl rfl (by rintro w' ⟨s0, s1, s2⟩; exact yl) ?_
              refine pu 20 70 (bv 34 2097151) HT_ rfl rfl ?_
              refine pu 21 71 (bv 34 4194303) HT_ rfl rfl ?_
              refine pn 22 72 (bv 34 8388607) HT_ rfl rfl ?_
              refine pn 23 73 (bv 34 16777215) HT_ rfl rfl ?_
              refine pn 24 74 (bv 34 33554431) HT_ rfl rfl ?_
              refine pn 25 75 (bv 34 67108863) HT_ rfl rfl ?_
              refine pn 26 76 (bv 34 134217727) HT_ rfl rfl ?_
              refine pn 27 77 (bv 34 268435455) HT_ rfl rfl ?_
              refine pn 28 78 (bv 34 536870911) HT_ rfl rfl ?_
              refine pn 29 79 (bv 34 1073741823) HT_ rfl rfl ?_
              refine pn 30 80 (bv 34 2147483647) HT_ rfl rfl ?_
              refine pn 31 81 (bv 34 4294967295) HT_ rfl rfl ?_
              refine pu 32 82 (bv 34 8589934591) HT_ rfl rfl ?_
              refine pu 33 83 (bv 34 17179869183) HT_ rfl rfl ?_
              refine done_ (done_of HT_.out (by kernel_rfl)) ?_
              try go_wp2
              have n_ := aC (Kd.R_drew HO_3.out) (aC (blk_drew BK127.out) (aC (IsS96.drew HI0.out) (aC (keep_drew HK.out) (aE (below_drew1 HB.out)))))
              clear HO_3 BK127 HI0 HK HB
              obtain ⟨HO_3, BK127, HI0, HK, HB⟩ := n_
              have p28 : 0 ≤ ((ji23) : Int) := dt
              have q28 : (ji23) < (s0_0.size : Int) := dt
              have hx28 := bt_at s0_0 (ji23)
              replace p28 := eq_true p28
              replace q28 := eq_true q28
              refine st 13 (fun w' => w'.cell? ⟨g, 0, none⟩ = some (.string s0_0) ∧ w'.cell? ⟨g, 1, none⟩ = some (.int .i64 ji23) ∧ w'.cell? ⟨g, 2, none⟩ = some (.bool x1002_1)) [] (bv 13 0) incunableref25_reader_text.tab9 incunableref25_reader_text.bits9 ⟨(blk_cell (Aside0.mk HI0.out.1).out 0).trans rfl, (blk_cell (Aside0.mk HI0.out.1).out 1).trans rfl, (blk_cell (Aside0.mk HI0.out.1).out 2).trans rfl⟩ (fun hHeld HT_ HW_ => ?_)
              generalize w33.drew = w34 at HO_3 BK127 HI0 HK HB hHeld ⊢
              refine pu 0 88 (bv 13 1) HT_ rfl rfl ?_
              refine pu 1 89 (bv 13 3) HT_ rfl rfl ?_
              refine pu 2 90 (bv 13 7) HT_ rfl rfl ?_
              refine pu 3 91 (bv 13 15) HT_ rfl rfl ?_
              refine pu 5 93 (bv 13 47) HT_ rfl rfl ?_
              refine pu 6 94 (bv 13 111) HT_ rfl rfl ?_
              refine pu 7 95 (bv 13 239) HT_ rfl rfl ?_
              refine tk 4 92 (bv 13 255) HT_ HW_ hHeld rfl rfl (by rintro w' ⟨s0, s1, s2⟩; exact yl) ?_
              refine tk 8 96 (bv 13 511) HT_ HW_ hHeld rfl rfl (by rintro w' ⟨s0, s1, s2⟩; exact yl) ?_
              refine tk 9 97 (bv 13 1023) HT_ HW_ hHeld rfl rfl (by rintro w' ⟨s0, s1, s2⟩; exact yl) ?_
              refine one_ (i := 10) (N := some 98) (bv 13 2047) rfl rfl (one_of HT_.out (by kernel_rfl)) (by decide) (fun K hK => ?_)
              refine value_ (w1 := ?_) (v := ?_) (by rfl) rfl ?_ ?_
              rotate_left 2
              ·go_simp
               constructor
               ·rfl
               ·rfl
              refine hK.out _ _ ⟨(blk_cell (blk_alloc (Aside0.mk HI0.out.1).out _) 0).trans rfl, (blk_cell (blk_alloc (Aside0.mk HI0.out.1).out _) 1).trans rfl, (blk_cell (blk_alloc (Aside0.mk HI0.out.1).out _) 2).trans rfl⟩ (fun hHeld => ?_)
              clear hK K
              refine nm (some 98) ?_
              refine one_ (i := 11) (N := some 99) (bv 13 4095) rfl rfl (one_of HT_.out (by kernel_rfl)) (by decide) (fun K hK => ?_)
              refine Kd.R_append_step (Kd.int .u8) w.heap.size (by rfl) (.tmp 88) (.tmp 98) 44 5 (.int .u8 0) 1 rfl Tryd.underlying44 info5 rfl (by decide) (by omega) u3 x3_1 (bt s0_0 (ji23)) [.int .u8 (bt s0_0 (ji23))] (fun _ => True) (fun _ => False) rfl rfl ?aP (fun _ hk => hk.elim) ?aF ?aO (Below.refl _ _) ?aS ?aL ?_
              (case aP => exact rfl)
              (case aF => exact (fun _ _ => trivial))
              (case aO => exact (rU HO_3.out))
              (case aS => exact (keep_size (w := w) (g := g) (row := none) (by repeat (first | (with_reducible first | exact HK.out | apply KeepBut.set_ | apply keep_drewN | apply keep_drew | apply keep_alloc | refine keep_far ?_ GW127.out _) | exact HK.out))))
              (case aL => have := LMc29.out; omega)
              intro v129 w35 ho hb hg hat
              rw [← Ny128.out] at ho
              have n_ := aC (blk_grown (bU BK127.out) hg (Kd.R_ne HO_3.out BK127.out (by decide))) (aC (IsS96.grown (by repeat (first | (with_reducible first | exact HI0.out | apply IsS96.alloc | apply IsS96.drewN | apply IsS96.drew | apply IsS96.set_0 | apply IsS96.set_1 | apply IsS96.set_2 | refine IsS96.far ?_ NB0_127.out _) | exact HI0.out)) hg (IsS96.own_ne HI0.out HO_3.out (by decide))) (aC (below_weaken (by repeat (first | (with_reducible first | exact HB.out | apply below_alloc | apply pw_below_drewN | apply below_drew1 | refine below_set ?_ (IsS96.ge HI0.out) | refine below_set ?_ GE127.out) | exact HB.out)) HL.out hb) (aC (KeepBut.trans (by repeat (first | (with_reducible first | exact HK.out | apply KeepBut.set_ | apply keep_drewN | apply keep_drew | apply keep_alloc | refine keep_far ?_ GW127.out _) | exact HK.out)) (KeepBut.of_grown hg g) (Kd.R_base2 HO_3.out)) (aE ho))))
              clear BK127 HI0 HB HK HO_3
              obtain ⟨BK127, HI0, HB, HK, HO130⟩ := n_
              clear ho hb hg hat
              refine hK.out _ _ ⟨(blk_cell (Aside0.mk HI0.out.1).out 0).trans rfl, (blk_cell (Aside0.mk HI0.out.1).out 1).trans rfl, (blk_cell (Aside0.mk HI0.out.1).out 2).trans rfl⟩ (fun hHeld => ?_)
              clear hK K
              refine nm (some 99) ?_
              refine pu 12 3 (bv 13 8191) HT_ rfl rfl ?_
              refine done_ (done_of HT_.out (by kernel_rfl)) ?_
              obtain ⟨HGz36, hgz36⟩ := HI0.out
              have hcz36_0 := cellS96_0 HGz36
              have hcz36_1 := cellS96_1 HGz36
              have hcz36_2 := cellS96_2 HGz36
              have hfz36_0 := blk_frozen HGz36 0
              have hfz36_1 := blk_frozen HGz36 1
              have hfz36_2 := blk_frozen HGz36 2
              clear HGz36 hgz36
              try go_wp2
              go_roundg kj3
              case measure => have := HK1.out; have := HJ3.out; omega
              case rel => exact ⟨(y128), (wrap64 ((ji23) + 1)), (x1002_1), (x128000_1), (x128001_1), (x128002_1), H', ⟨by have := HK1.out; have := HJ3.out; omega⟩, ⟨rU (Kd.R_mono (Kd.R_far (p := ⟨g, 1, none⟩) (IsS96.apart HI0.out HO130.out (by decide)) (fun _ hk => hk.2) (.int .i64 (wrap64 ((ji23) + 1)))) (fun _ hk => trivial))⟩, ⟨by (with_reducible repeat (first | refine blk_drewN ?_ _ | refine blk_drew ?_ | refine blk_alloc ?_ _)); refine blk_far ?_ NB127_0.out _; (with_reducible repeat (first | refine blk_drewN ?_ _ | refine blk_drew ?_ | refine blk_alloc ?_ _)); exact BK127.out⟩, ⟨by repeat (first | (with_reducible first | exact HI0.out | apply IsS96.alloc | apply IsS96.drewN | apply IsS96.drew | apply IsS96.set_0 | apply IsS96.set_1 | apply IsS96.set_2 | refine IsS96.far ?_ NB0_127.out _) | exact HI0.out)⟩, ⟨by repeat (first | (with_reducible first | exact HK.out | apply KeepBut.set_ | apply keep_drewN | apply keep_drew | apply keep_alloc | refine keep_far ?_ GW127.out _) | exact HK.out)⟩, ⟨by repeat (first | (with_reducible first | exact HB.out | apply below_alloc | apply pw_below_drewN | apply below_drew1 | refine below_set ?_ (IsS96.ge HI0.out) | refine below_set ?_ GE127.out) | exact HB.out)⟩⟩
             ·rw [if_neg c29] at H
              exact absurd H (by simp)
            ·rcases iE H with H1 | H1 <;> clear H <;> obtain ⟨H, c38b0, c38b1, c38⟩ := H1
             ·by_cases c40 : x3_1.length < 140737488355328
              ·rw [if_pos c40] at H
               have LMc40 := Aside0.mk c40
               clear c40
               obtain ⟨y131, hy_⟩ : ∃ y_ : List Int, y_ = (x3_1 ++ [bt s0_0 (ji23)]) := ⟨_, rfl⟩
               replace H : (incunableref25_reader_text.l0 kj3 y131 s0_0 (wrap64 ((ji23) + 1)) x1002_1) = some (r1, r2, r3, r4, r5, r6, r7) := rh
               have Ny131 := aE hy_
               clear hy_
               have H' := Aside0.mk H
               clear H
               try go_wp2
               have n_ := aC (Kd.R_drew HO_3.out) (aC (blk_drew BK127.out) (aC (IsS96.drew HI0.out) (aC (keep_drew HK.out) (aE (below_drew1 HB.out)))))
               clear HO_3 BK127 HI0 HK HB
               obtain ⟨HO_3, BK127, HI0, HK, HB⟩ := n_
               have p13 : 0 ≤ (x1001_1 : Int) := dt
               have q13 : x1001_1 < (s0_0.size : Int) := dt
               have hx13 := bt_at s0_0 x1001_1
               replace p13 := eq_true p13
               replace q13 := eq_true q13
               refine st 10 (fun w' => w'.cell? ⟨g, 0, none⟩ = some (.string s0_0) ∧ w'.cell? ⟨g, 1, none⟩ = some (.int .i64 x1001_1) ∧ w'.cell? ⟨g, 2, none⟩ = some (.bool x1002_1)) [] (bv 10 0) incunableref25_reader_text.tab4 incunableref25_reader_text.bits4 ⟨(blk_cell (Aside0.mk HI0.out.1).out 0).trans rfl, (blk_cell (Aside0.mk HI0.out.1).out 1).trans rfl, (blk_cell (Aside0.mk HI0.out.1).out 2).trans rfl⟩ (fun hHeld HT_ HW_ => ?_)
               generalize wc.drew = w41 at HO_3 BK127 HI0 HK HB hHeld ⊢
               refine pu 0 33 (bv 10 1) HT_ rfl rfl ?_
               refine pu 1 34 (bv 10 3) HT_ rfl rfl ?_
               refine pu 2 35 (bv 10 7) HT_ rfl rfl ?_
               refine pu 4 37 (bv 10 23) HT_ rfl rfl ?_
               refine pu 5 38 (bv 10 55) HT_ rfl rfl ?_
               refine pu 6 39 (bv 10 119) HT_ rfl rfl ?_
               refine tk 3 36 (bv 10 127) HT_ HW_ hHeld rfl rfl (by rintro w' ⟨s0, s1, s2⟩; exact yl) ?_
               refine tk 7 40 (bv 10 255) HT_ HW_ hHeld rfl rfl (by rintro w' ⟨s0, s1, s2⟩; exact yl) ?_
               refine tk 8 41 (bv 10 511) HT_ HW_ hHeld rfl rfl (by rintro w' ⟨s0, s1, s2⟩; exact yl) ?_
               refine pu 9 42 (bv 10 1023) HT_ rfl rfl ?_
               refine done_ (done_of HT_.out (by kernel_rfl)) ?_
               obtain ⟨HGz42, hgz42⟩ := HI0.out
               have hcz42_0 := cellS96_0 HGz42
               have hcz42_1 := cellS96_1 HGz42
               have hcz42_2 := cellS96_2 HGz42
               have hfz42_0 := blk_frozen HGz42 0
               have hfz42_1 := blk_frozen HGz42 1
               have hfz42_2 := blk_frozen HGz42 2
               clear HGz42 hgz42
               try go_wp2
               have n0_ : Aside0 (Kd.R (Kd.int .u8) 5 (w41.setCell ⟨g, 1, none⟩ (.int .i64 ji23)) w.heap.size (fun _ => True) u3 x3_1) := ⟨rU (Kd.R_mono (Kd.R_far (p := ⟨g, 1, none⟩) (IsS96.apart HI0.out HO_3.out (by decide)) (fun _ hk => hk.2) (.int .i64 ji23)) (fun _ hk => trivial))⟩
               have n1_ : Aside0 ((w41.setCell ⟨g, 1, none⟩ (.int .i64 ji23)).heap[gb127]? = some (.cells #[.int .i64 x128000_1, .string x128001_1, .int .i64 x128002_1, .slice none 0 0] 33 (0, 0))) := ⟨by (with_reducible repeat (first | refine blk_drewN ?_ _ | refine blk_drew ?_ | refine blk_alloc ?_ _)); refine blk_far ?_ NB127_0.out _; (with_reducible repeat (first | refine blk_drewN ?_ _ | refine blk_drew ?_ | refine blk_alloc ?_ _)); exact BK127.out⟩
               have n2_ : Aside0 (IsS96 w0 (w41.setCell ⟨g, 1, none⟩ (.int .i64 ji23)) g s0_0 ji23 x1002_1) := ⟨by repeat (first | (with_reducible first | exact HI0.out | apply IsS96.alloc | apply IsS96.drewN | apply IsS96.drew | apply IsS96.set_0 | apply IsS96.set_1 | apply IsS96.set_2 | refine IsS96.far ?_ NB0_127.out _) | exact HI0.out)⟩
               have n3_ : Aside0 (KeepBut w (w41.setCell ⟨g, 1, none⟩ (.int .i64 ji23)) g none) := ⟨by repeat (first | (with_reducible first | exact HK.out | apply KeepBut.set_ | apply keep_drewN | apply keep_drew | apply keep_alloc | refine keep_far ?_ GW127.out _) | exact HK.out)⟩
               have n4_ : Aside0 (Below w0.heap.size w0 (w41.setCell ⟨g, 1, none⟩ (.int .i64 ji23))) := ⟨by repeat (first | (with_reducible first | exact HB.out | apply below_alloc | apply pw_below_drewN | apply below_drew1 | refine below_set ?_ (IsS96.ge HI0.out) | refine below_set ?_ GE127.out) | exact HB.out)⟩
               (try clear HO_3)
               (try clear BK127)
               (try clear HI0)
               (try clear HK)
               (try clear HB)
               generalize (w41.setCell ⟨g, 1, none⟩ (.int .i64 ji23)) = w43 at n0_ n1_ n2_ n3_ n4_ ⊢
               have HO_3 := n0_
               have BK127 := n1_
               have HI0 := n2_
               have HK := n3_
               have HB := n4_
               clear n0_ n1_ n2_ n3_ n4_
               have n_ := aC (Kd.R_drew HO_3.out) (aC (blk_drew BK127.out) (aC (IsS96.drew HI0.out) (aC (keep_drew HK.out) (aE (below_drew1 HB.out)))))
               clear HO_3 BK127 HI0 HK HB
               obtain ⟨HO_3, BK127, HI0, HK, HB⟩ := n_
               have p26 : 0 ≤ ((ji23) : Int) := dt
               have q26 : (ji23) < (s0_0.size : Int) := dt
               have hx26 := bt_at s0_0 (ji23)
               replace p26 := eq_true p26
               replace q26 := eq_true q26
               have p37 : 0 ≤ ((ji23) : Int) := dt
               have q37 : (ji23) < (s0_0.size : Int) := dt
               have hx37 := bt_at s0_0 (ji23)
               replace p37 := eq_true p37
               replace q37 := eq_true q37
               refine st 34 (fun w' => w'.cell? ⟨g, 0, none⟩ = some (.string s0_0) ∧ w'.cell? ⟨g, 1, none⟩ = some (.int .i64 ji23) ∧ w'.cell? ⟨g, 2, none⟩ = some (.bool x1002_1)) [] (bv 34 0) incunableref25_reader_text.tab6 incunableref25_reader_text.bits6 ⟨(blk_cell (Aside0.mk HI0.out.1).out 0).trans rfl, (blk_cell (Aside0.mk HI0.out.1).out 1).trans rfl, (blk_cell (Aside0.mk HI0.out.1).out 2).trans rfl⟩ (fun hHeld HT_ HW_ => ?_)
               generalize w43.drew = w44 at HO_3 BK127 HI0 HK HB hHeld ⊢
               refine pu 0 50 (bv 34 1) HT_ rfl rfl ?_
               refine pu 1 51 (bv 34 3) HT_ rfl rfl ?_
               refine pu 2 52 (bv 34 7) HT_ rfl rfl ?_
               refine pu 4 54 (bv 34 23) HT_ rfl rfl ?_
               refine pu 5 55 (bv 34 55) HT_ rfl rfl ?_
               refine pu 6 56 (bv 34 119) HT_ rfl rfl ?_
               refine tk 3 53 (bv 34 127) HT_ HW_ hHeld rfl rfl (by rintro w' ⟨s0, s1, s2⟩; exact yl) ?_
               refine tk 7 57 (bv 34 255) HT_ HW_ hHeld rfl rfl (by rintro w' ⟨s0, s1, s2⟩; exact yl) ?_
               refine pu 8 58 (bv 34 511) HT_ rfl rfl ?_
               refine pu 9 59 (bv 34 1023) HT_ rfl rfl ?_
               refine pu 10 60 (bv 34 2047) HT_ rfl rfl ?_
               refine pu 11 61 (bv 34 4095) HT_ rfl rfl ?_
               refine pu 12 62 (bv 34 8191) HT_ rfl rfl ?_
               refine pu 13 63 (bv 34 16383) HT_ rfl rfl ?_
               refine pu 15 65 (bv 34 49151) HT_ rfl rfl ?_
               refine pu 16 66 (bv 34 114687) HT_ rfl rfl ?_
               refine pu 17 67 (bv 34 245759) HT_ rfl rfl ?_
               refine tk 14 64 (bv 34 262143) HT_ HW_ hHeld rfl rfl (by rintro w' ⟨s0, s1, s2⟩; exact yl) ?_
               refine tk 18 68 (bv 34 524287) HT_ HW_ hHeld rfl rfl (by rintro w' ⟨s0, s1, s2⟩; exact yl) ?_
               refine tk 19 69 (bv 34 1048575) HT_ HW_ hHeld rfl rfl (by rintro w' ⟨s0, s1, s2⟩; exact yl) ?_
               refine pu 20 70 (bv 34 2097151) HT_ rfl rfl ?_
               refine pu 21 71 (bv 34 4194303) HT_ rfl rfl ?_
               refine pu 22 72 (bv 34 8388607) HT_ rfl rfl ?_
               refine pu 23 73 (bv 34 16777215) HT_ rfl rfl ?_
               refine pu 24 74 (bv 34 33554431) HT_ rfl rfl ?_
               refine pu 26 76 (bv 34 100663295) HT_ rfl rfl ?_
               refine pu 27 77 (bv 34 234881023) HT_ rfl rfl ?_
               refine pu 28 78 (bv 34 503316479) HT_ rfl rfl ?_
               refine tk 25 75 (bv 34 536870911) HT_ HW_ hHeld rfl rfl (by rintro w' ⟨s0, s1, s2⟩; exact yl) ?_
               refine tk 29 79 (bv 34 1073741823) HT_ HW_ hHeld rfl rfl (by rintro w' ⟨s0, s1, s2⟩; exact yl) ?_
               refine tk 30 80 (bv 34 2147483647) HT_ HW_ hHeld rfl rfl (by rintro w' ⟨s0, s1, s2⟩; exact yl) ?_
               refine pu 31 81 (bv 34 4294967295) HT_ rfl rfl ?_
               refine pu 32 82 (bv 34 8589934591) HT_ rfl rfl ?_
               refine pu 33 83 (bv 34 17179869183) HT_ rfl rfl ?_
               refine done_ (done_of HT_.out (by kernel_rfl)) ?_
               try go_wp2
               have n_ := aC (Kd.R_drew HO_3.out) (aC (blk_drew BK127.out) (aC (IsS96.drew HI0.out) (aC (keep_drew HK.out) (aE (below_drew1 HB.out)))))
               clear HO_3 BK127 HI0 HK HB
               obtain ⟨HO_3, BK127, HI0, HK, HB⟩ := n_
               have p39 : 0 ≤ ((ji23) : Int) := dt
               have q39 : (ji23) < (s0_0.size : Int) := dt
               have hx39 := bt_at s0_0 (ji23)
               replace p39 := eq_true p39
               replace q39 := eq_true q39
               refine st 13 (fun w' => w'.cell? ⟨g, 0, none⟩ = some (.string s0_0) ∧ w'.cell? ⟨g, 1, none⟩ = some (.int .i64 ji23) ∧ w'.cell? ⟨g, 2, none⟩ = some (.bool x1002_1)) [] (bv 13 0) incunableref25_reader_text.tab9 incunableref25_reader_text.bits9 ⟨(blk_cell (Aside0.mk HI0.out.1).out 0).trans rfl, (blk_cell (Aside0.mk HI0.out.1).out 1).trans rfl, (blk_cell (Aside0.mk HI0.out.1).out 2).trans rfl⟩ (fun hHeld HT_ HW_ => ?_)
               generalize w44.drew = w45 at HO_3 BK127 HI0 HK HB hHeld ⊢
               refine pu 0 88 (bv 13 1) HT_ rfl rfl ?_
               refine pu 1 89 (bv 13 3) HT_ rfl rfl ?_
               refine pu 2 90 (bv 13 7) HT_ rfl rfl ?_
               refine pu 3 91 (bv 13 15) HT_ rfl rfl ?_
               refine pu 5 93 (bv 13 47) HT_ rfl rfl ?_
               refine pu 6 94 (bv 13 111) HT_ rfl rfl ?_
               refine pu 7 95 (bv 13 239) HT_ rfl rfl ?_
               refine tk 4 92 (bv 13 255) HT_ HW_ hHeld rfl rfl (by rintro w' ⟨s0, s1, s2⟩; exact yl) ?_
               refine tk 8 96 (bv 13 511) HT_ HW_ hHeld rfl rfl (by rintro w' ⟨s0, s1, s2⟩; exact yl) ?_
               refine tk 9 97 (bv 13 1023) HT_ HW_ hHeld rfl rfl (by rintro w' ⟨s0, s1, s2⟩; exact yl) ?_
               refine one_ (i := 10) (N := some 98) (bv 13 2047) rfl rfl (one_of HT_.out (by kernel_rfl)) (by decide) (fun K hK => ?_)
               refine value_ (w1 := ?_) (v := ?_) (by rfl) rfl ?_ ?_
               rotate_left 2
               ·go_simp
                constructor
                ·rfl
                ·rfl
               refine hK.out _ _ ⟨(blk_cell (blk_alloc (Aside0.mk HI0.out.1).out _) 0).trans rfl, (blk_cell (blk_alloc (Aside0.mk HI0.out.1).out _) 1).trans rfl, (blk_cell (blk_alloc (Aside0.mk HI0.out.1).out _) 2).trans rfl⟩ (fun hHeld => ?_)
               clear hK K
               refine nm (some 98) ?_
               refine one_ (i := 11) (N := some 99) (bv 13 4095) rfl rfl (one_of HT_.out (by kernel_rfl)) (by decide) (fun K hK => ?_)
               refine Kd.R_append_step (Kd.int .u8) w.heap.size (by rfl) (.tmp 88) (.tmp 98) 44 5 (.int .u8 0) 1 rfl Tryd.underlying44 info5 rfl (by decide) (by omega) u3 x3_1 (bt s0_0 (ji23)) [.int .u8 (bt s0_0 (ji23))] (fun _ => True) (fun _ => False) rfl rfl ?aP (fun _ hk => hk.elim) ?aF ?aO (Below.refl _ _) ?aS ?aL ?_
               (case aP => exact rfl)
               (case aF => exact (fun _ _ => trivial))
               (case aO => exact (rU HO_3.out))
               (case aS => exact (keep_size (w := w) (g := g) (row := none) (by repeat (first | (with_reducible first | exact HK.out | apply KeepBut.set_ | apply keep_drewN | apply keep_drew | apply keep_alloc | refine keep_far ?_ GW127.out _) | exact HK.out))))
               (case aL => have := LMc40.out; omega)
               intro v132 w46 ho hb hg hat
               rw [← Ny131.out] at ho
               have n_ := aC (blk_grown (bU BK127.out) hg (Kd.R_ne HO_3.out BK127.out (by decide))) (aC (IsS96.grown (by repeat (first | (with_reducible first | exact HI0.out | apply IsS96.alloc | apply IsS96.drewN | apply IsS96.drew | apply IsS96.set_0 | apply IsS96.set_1 | apply IsS96.set_2 | refine IsS96.far ?_ NB0_127.out _) | exact HI0.out)) hg (IsS96.own_ne HI0.out HO_3.out (by decide))) (aC (below_weaken (by repeat (first | (with_reducible first | exact HB.out | apply below_alloc | apply pw_below_drewN | apply below_drew1 | refine below_set ?_ (IsS96.ge HI0.out) | refine below_set ?_ GE127.out) | exact HB.out)) HL.out hb) (aC (KeepBut.trans (by repeat (first | (with_reducible first | exact HK.out | apply KeepBut.set_ | apply keep_drewN | apply keep_drew | apply keep_alloc | refine keep_far ?_ GW127.out _) | exact HK.out)) (KeepBut.of_grown hg g) (Kd.R_base2 HO_3.out)) (aE ho))))
               clear BK127 HI0 HB HK HO_3
               obtain ⟨BK127, HI0, HB, HK, HO133⟩ := n_
               clear ho hb hg hat
               refine hK.out _ _ ⟨(blk_cell (Aside0.mk HI0.out.1).out 0).trans rfl, (blk_cell (Aside0.mk HI0.out.1).out 1).trans rfl, (blk_cell (Aside0.mk HI0.out.1).out 2).trans rfl⟩ (fun hHeld => ?_)
               clear hK K
               refine nm (some 99) ?_
               refine pu 12 3 (bv 13 8191) HT_ rfl rfl ?_
               refine done_ (done_of HT_.out (by kernel_rfl)) ?_
               obtain ⟨HGz47, hgz47⟩ := HI0.out
               have hcz47_0 := cellS96_0 HGz47
               have hcz47_1 := cellS96_1 HGz47
               have hcz47_2 := cellS96_2 HGz47
               have hfz47_0 := blk_frozen HGz47 0
               have hfz47_1 := blk_frozen HGz47 1
               have hfz47_2 := blk_frozen HGz47 2
               clear HGz47 hgz47
               try go_wp2
               go_roundg kj3
               case measure => have := HK1.out; have := HJ3.out; omega
               case rel => exact ⟨(y131), (wrap64 ((ji23) + 1)), (x1002_1), (x128000_1), (x128001_1), (x128002_1), H', ⟨by have := HK1.out; have := HJ3.out; omega⟩, ⟨rU (Kd.R_mono (Kd.R_far (p := ⟨g, 1, none⟩) (IsS96.apart HI0.out HO133.out (by decide)) (fun _ hk => hk.2) (.int .i64 (wrap64 ((ji23) + 1)))) (fun _ hk => trivial))⟩, ⟨by (with_reducible repeat (first | refine blk_drewN ?_ _ | refine blk_drew ?_ | refine blk_alloc ?_ _)); refine blk_far ?_ NB127_0.out _; (with_reducible repeat (first | refine blk_drewN ?_ _ | refine blk_drew ?_ | refine blk_alloc ?_ _)); exact BK127.out⟩, ⟨by repeat (first | (with_reducible first | exact HI0.out | apply IsS96.alloc | apply IsS96.drewN | apply IsS96.drew | apply IsS96.set_0 | apply IsS96.set_1 | apply IsS96.set_2 | refine IsS96.far ?_ NB0_127.out _) | exact HI0.out)⟩, ⟨by repeat (first | (with_reducible first | exact HK.out | apply KeepBut.set_ | apply keep_drewN | apply keep_drew | apply keep_alloc | refine keep_far ?_ GW127.out _) | exact HK.out)⟩, ⟨by repeat (first | (with_reducible first | exact HB.out | apply below_alloc | apply pw_below_drewN | apply below_drew1 | refine below_set ?_ (IsS96.ge HI0.out) | refine below_set ?_ GE127.out) | exact HB.out)⟩⟩
              ·rw [if_neg c40] at H
               exact absurd H (by simp)
             ·simp only [Option.some.injEq, Prod.mk.injEq] at H
              obtain ⟨rfl, rfl, rfl, rfl, rfl, rfl, rfl⟩ := H
              try go_wp2
              have n_ := aC (Kd.R_drew HO_3.out) (aC (blk_drew BK127.out) (aC (IsS96.drew HI0.out) (aC (keep_drew HK.out) (aE (below_drew1 HB.out)))))
              clear HO_3 BK127 HI0 HK HB
              obtain ⟨HO_3, BK127, HI0, HK, HB⟩ := n_
              have p13 : 0 ≤ (x1001_1 : Int) := dt
              have q13 : x1001_1 < (s0_0.size : Int) := dt
              have hx13 := bt_at s0_0 x1001_1
              replace p13 := eq_true p13
              replace q13 := eq_true q13
              refine st 10 (fun w' => w'.cell? ⟨g, 0, none⟩ = some (.string s0_0) ∧ w'.cell? ⟨g, 1, none⟩ = some (.int .i64 x1001_1) ∧ w'.cell? ⟨g, 2, none⟩ = some (.bool x1002_1)) [] (bv 10 0) incunableref25_reader_text.tab4 incunableref25_reader_text.bits4 ⟨(blk_cell (Aside0.mk HI0.out.1).out 0).trans rfl, (blk_cell (Aside0.mk HI0.out.1).out 1).trans rfl, (blk_cell (Aside0.mk HI0.out.1).out 2).trans rfl⟩ (fun hHeld HT_ HW_ => ?_)
              generalize wc.drew = w48 at HO_3 BK127 HI0 HK HB hHeld ⊢
              refine pu 0 33 (bv 10 1) HT_ rfl rfl ?_
              refine pu 1 34 (bv 10 3) HT_ rfl rfl ?_
              refine pu 2 35 (bv 10 7) HT_ rfl rfl ?_
              refine pu 4 37 (bv 10 23) HT_ rfl rfl ?_
              refine pu 5 38 (bv 10 55) HT_ rfl rfl ?_
              refine pu 6 39 (bv 10 119) HT_ rfl rfl ?_
              refine tk 3 36 (bv 10 127) HT_ HW_ hHeld rfl rfl (by rintro w' ⟨s0, s1, s2⟩; exact yl) ?_
              refine tk 7 40 (bv 10 255) HT_ HW_ hHeld rfl rfl (by rintro w' ⟨s0, s1, s2⟩; exact yl) ?_
              refine tk 8 41 (bv 10 511) HT_ HW_ hHeld rfl rfl (by rintro w' ⟨s0, s1, s2⟩; exact yl) ?_
              refine pu 9 42 (bv 10 1023) HT_ rfl rfl ?_
              refine done_ (done_of HT_.out (by kernel_rfl)) ?_
              obtain ⟨HGz49, hgz49⟩ := HI0.out
              have hcz49_0 := cellS96_0 HGz49
              have hcz49_1 := cellS96_1 HGz49
              have hcz49_2 := cellS96_2 HGz49
              have hfz49_0 := blk_frozen HGz49 0
              have hfz49_1 := blk_frozen HGz49 1
              have hfz49_2 := blk_frozen HGz49 2
              clear HGz49 hgz49
              try go_wp2
              have n0_ : Aside0 (Kd.R (Kd.int .u8) 5 (w48.setCell ⟨g, 1, none⟩ (.int .i64 ji23)) w.heap.size (fun _ => True) u3 x3_1) := ⟨rU (Kd.R_mono (Kd.R_far (p := ⟨g, 1, none⟩) (IsS96.apart HI0.out HO_3.out (by decide)) (fun _ hk => hk.2) (.int .i64 ji23)) (fun _ hk => trivial))⟩
              have n1_ : Aside0 ((w48.setCell ⟨g, 1, none⟩ (.int .i64 ji23)).heap[gb127]? = some (.cells #[.int .i64 x128000_1, .string x128001_1, .int .i64 x128002_1, .slice none 0 0] 33 (0, 0))) := ⟨by (with_reducible repeat (first | refine blk_drewN ?_ _ | refine blk_drew ?_ | refine blk_alloc ?_ _)); refine blk_far ?_ NB127_0.out _; (with_reducible repeat (first | refine blk_drewN ?_ _ | refine blk_drew ?_ | refine blk_alloc ?_ _)); exact BK127.out⟩
              have n2_ : Aside0 (IsS96 w0 (w48.setCell ⟨g, 1, none⟩ (.int .i64 ji23)) g s0_0 ji23 x1002_1) := ⟨by repeat (first | (with_reducible first | exact HI0.out | apply IsS96.alloc | apply IsS96.drewN | apply IsS96.drew | apply IsS96.set_0 | apply IsS96.set_1 | apply IsS96.set_2 | refine IsS96.far ?_ NB0_127.out _) | exact HI0.out)⟩
              have n3_ : Aside0 (KeepBut w (w48.setCell ⟨g, 1, none⟩ (.int .i64 ji23)) g none) := ⟨by repeat (first | (with_reducible first | exact HK.out | apply KeepBut.set_ | apply keep_drewN | apply keep_drew | apply keep_alloc | refine keep_far ?_ GW127.out _) | exact HK.out)⟩
              have n4_ : Aside0 (Below w0.heap.size w0 (w48.setCell ⟨g, 1, none⟩ (.int .i64 ji23))) := ⟨by repeat (first | (with_reducible first | exact HB.out | apply below_alloc | apply pw_below_drewN | apply below_drew1 | refine below_set ?_ (IsS96.ge HI0.out) | refine below_set ?_ GE127.out) | exact HB.out)⟩
              (try clear HO_3)
              (try clear BK127)
              (try clear HI0)
              (try clear HK)
              (try clear HB)
              generalize (w48.setCell ⟨g, 1, none⟩ (.int .i64 ji23)) = w50 at n0_ n1_ n2_ n3_ n4_ ⊢
              have HO_3 := n0_
              have BK127 := n1_
              have HI0 := n2_
              have HK := n3_
              have HB := n4_
              clear n0_ n1_ n2_ n3_ n4_
              have n_ := aC (Kd.R_drew HO_3.out) (aC (blk_drew BK127.out) (aC (IsS96.drew HI0.out) (aC (keep_drew HK.out) (aE (below_drew1 HB.out)))))
              clear HO_3 BK127 HI0 HK HB
              obtain ⟨HO_3, BK127, HI0, HK, HB⟩ := n_
              have p26 : 0 ≤ ((ji23) : Int) := dt
              have q26 : (ji23) < (s0_0.size : Int) := dt
              have hx26 := bt_at s0_0 (ji23)
              replace p26 := eq_true p26
              replace q26 := eq_true q26
              have p37 : 0 ≤ ((ji23) : Int) := dt
              have q37 : (ji23) < (s0_0.size : Int) := dt
              have hx37 := bt_at s0_0 (ji23)
              replace p37 := eq_true p37
              replace q37 := eq_true q37
              refine st 34 (fun w' => w'.cell? ⟨g, 0, none⟩ = some (.string s0_0) ∧ w'.cell? ⟨g, 1, none⟩ = some (.int .i64 ji23) ∧ w'.cell? ⟨g, 2, none⟩ = some (.bool x1002_1)) [] (bv 34 0) incunableref25_reader_text.tab6 incunableref25_reader_text.bits6 ⟨(blk_cell (Aside0.mk HI0.out.1).out 0).trans rfl, (blk_cell (Aside0.mk HI0.out.1).out 1).trans rfl, (blk_cell (Aside0.mk HI0.out.1).out 2).trans rfl⟩ (fun hHeld HT_ HW_ => ?_)
              generalize w50.drew = w51 at HO_3 BK127 HI0 HK HB hHeld ⊢
              refine pu 0 50 (bv 34 1) HT_ rfl rfl ?_
              refine pu 1 51 (bv 34 3) HT_ rfl rfl ?_
              refine pu 2 52 (bv 34 7) HT_ rfl rfl ?_
              refine pu 4 54 (bv 34 23) HT_ rfl rfl ?_
              refine pu 5 55 (bv 34 55) HT_ rfl rfl ?_
              refine pu 6 56 (bv 34 119) HT_ rfl rfl ?_
              refine tk 3 53 (bv 34 127) HT_ HW_ hHeld rfl rfl (by rintro w' ⟨s0, s1, s2⟩; exact yl) ?_
              refine tk 7 57 (bv 34 255) HT_ HW_ hHeld rfl rfl (by rintro w' ⟨s0, s1, s2⟩; exact yl) ?_
              refine pu 8 58 (bv 34 511) HT_ rfl rfl ?_
              refine pu 9 59 (bv 34 1023) HT_ rfl rfl ?_
              refine pu 10 60 (bv 34 2047) HT_ rfl rfl ?_
              refine pu 11 61 (bv 34 4095) HT_ rfl rfl ?_
              refine pu 12 62 (bv 34 8191) HT_ rfl rfl ?_
              refine pu 13 63 (bv 34 16383) HT_ rfl rfl ?_
              refine pu 15 65 (bv 34 49151) HT_ rfl rfl ?_
              refine pu 16 66 (bv 34 114687) HT_ rfl rfl ?_
              refine pu 17 67 (bv 34 245759) HT_ rfl rfl ?_
              refine tk 14 64 (bv 34 262143) HT_ HW_ hHeld rfl rfl (by rintro w' ⟨s0, s1, s2⟩; exact yl) ?_
              refine tk 18 68 (bv 34 524287) HT_ HW_ hHeld rfl rfl (by rintro w' ⟨s0, s1, s2⟩; exact yl) ?_
              refine tk 19 69 (bv 34 1048575) HT_ HW_ hHeld rfl rfl (by rintro w' ⟨s0, s1, s2⟩; exact yl) ?_
              refine pu 20 70 (bv 34 2097151) HT_ rfl rfl ?_
              refine pu 21 71 (bv 34 4194303) HT_ rfl rfl ?_
              refine pu 22 72 (bv 34 8388607) HT_ rfl rfl ?_
              refine pu 23 73 (bv 34 16777215) HT_ rfl rfl ?_
              refine pu 24 74 (bv 34 33554431) HT_ rfl rfl ?_
              refine pu 26 76 (bv 34 100663295) HT_ rfl rfl ?_
              refine pu 27 77 (bv 34 234881023) HT_ rfl rfl ?_
              refine pu 28 78 (bv 34 503316479) HT_ rfl rfl ?_
              refine tk 25 75 (bv 34 536870911) HT_ HW_ hHeld rfl rfl (by rintro w' ⟨s0, s1, s2⟩; exact yl) ?_
              refine tk 29 79 (bv 34 1073741823) HT_ HW_ hHeld rfl rfl (by rintro w' ⟨s0, s1, s2⟩; exact yl) ?_
              refine tk 30 80 (bv 34 2147483647) HT_ HW_ hHeld rfl rfl (by rintro w' ⟨s0, s1, s2⟩; exact yl) ?_
              refine pu 31 81 (bv 34 4294967295) HT_ rfl rfl ?_
              refine pu 32 82 (bv 34 8589934591) HT_ rfl rfl ?_
              refine pu 33 83 (bv 34 17179869183) HT_ rfl rfl ?_
              refine done_ (done_of HT_.out (by kernel_rfl)) ?_
              obtain ⟨HGz52, hgz52⟩ := HI0.out
              have hcz52_0 := cellS96_0 HGz52
              have hcz52_1 := cellS96_1 HGz52
              have hcz52_2 := cellS96_2 HGz52
              have hfz52_0 := blk_frozen HGz52 0
              have hfz52_1 := blk_frozen HGz52 1
              have hfz52_2 := blk_frozen HGz52 2
              clear HGz52 hgz52
              have hnb53 := NB127_0.out
              have hnc53 := NB0_127.out
              obtain ⟨hcz54_0, hcz54_1, hcz54_2, hcz54_3, hfz54_0, hfz54_1, hfz54_2, hfz54_3⟩ := cz4f BK127.out
              try go_wp2
              refine bodyPost_ret (results_cell_row rfl _ _ gb127 33 #[.int .i64 0, .string (⟨#[]⟩ : ByteArray), .int .i64 0, .slice none 0 0] (0, 0) _ rfl (by (with_reducible repeat (first | refine blk_drewN ?_ _ | refine blk_drew ?_ | refine blk_alloc ?_ _)); refine blk_put (cs := #[.int .i64 0, .string (⟨#[]⟩ : ByteArray), .int .i64 0, .slice none 0 0]) ?_ 3 _ rfl; (with_reducible repeat (first | refine blk_drewN ?_ _ | refine blk_drew ?_ | refine blk_alloc ?_ _)); refine blk_put (cs := #[.int .i64 0, .string (⟨#[]⟩ : ByteArray), .int .i64 x128002_1, .slice none 0 0]) ?_ 2 _ rfl; (with_reducible repeat (first | refine blk_drewN ?_ _ | refine blk_drew ?_ | refine blk_alloc ?_ _)); refine blk_put (cs := #[.int .i64 0, .string x128001_1, .int .i64 x128002_1, .slice none 0 0]) ?_ 1 _ rfl; (with_reducible repeat (first | refine blk_drewN ?_ _ | refine blk_drew ?_ | refine blk_alloc ?_ _)); refine blk_put (cs := #[.int .i64 x128000_1, .string x128001_1, .int .i64 x128002_1, .slice none 0 0]) ?_ 0 _ rfl; (with_reducible repeat (first | refine blk_drewN ?_ _ | refine blk_drew ?_ | refine blk_alloc ?_ _)); refine blk_far ?_ NB127_0.out _; (with_reducible repeat (first | refine blk_drewN ?_ _ | refine blk_drew ?_ | refine blk_alloc ?_ _)); exact BK127.out) Tryd.underlying33 rfl (by kernel_rfl)) rfl ?_
              exact ⟨_, by first | rfl | (simp [errW_none, errW_some] <;> rfl) | (simp only [← hji23]; first | rfl | (simp [errW_none, errW_some] <;> rfl)) | (simp [*, errW_none, errW_some] <;> rfl), by first | exact Kd.R_nil _ _ _ _ _ | exact Kd.N_nil _ _ _ _ _ | exact Kd.V_nil _ _ _ _ _ | exact Kd.Q_nil _ _ _ _ _ | exact Kd.S_nil _ _ _ _ _, by repeat (first | (with_reducible first | exact HI0.out | apply IsS96.alloc | apply IsS96.drewN | apply IsS96.drew | apply IsS96.set_0 | apply IsS96.set_1 | apply IsS96.set_2 | refine IsS96.far ?_ NB0_127.out _) | exact HI0.out), by repeat (first | (with_reducible first | exact HB.out | apply below_alloc | apply pw_below_drewN | apply below_drew1 | refine below_set ?_ (IsS96.ge HI0.out) | refine below_set ?_ GE127.out) | exact HB.out), by repeat (first | (with_reducible first | exact HK.out | apply KeepBut.set_ | apply keep_drewN | apply keep_drew | apply keep_alloc | refine keep_far ?_ GW127.out _) | exact HK.out)⟩
           ·rw [if_neg c25] at H
            exact absurd H (by simp)
          ·rw [if_neg c24] at H
           exact absurd H (by simp)
        ·by_cases c56 : x3_1.length < 140737488355328
         ·rw [if_pos c56] at H
          have LMc56 := Aside0.mk c56
          clear c56
          obtain ⟨y134, hy_⟩ : ∃ y_ : List Int, y_ = (x3_1 ++ [bt s0_0 x1001_1]) := ⟨_, rfl⟩
          replace H : (incunableref25_reader_text.l0 kj3 y134 s0_0 (wrap64 (x1001_1 + 1)) x1002_1) = some (r1, r2, r3, r4, r5, r6, r7) := rh
          have Ny134 := aE hy_
          clear hy_
          have H' := Aside0.mk H
          clear H
          try go_wp2
          have n_ := aC (Kd.R_drew HO_3.out) (aC (blk_drew BK127.out) (aC (IsS96.drew HI0.out) (aC (keep_drew HK.out) (aE (below_drew1 HB.out)))))
          clear HO_3 BK127 HI0 HK HB
          obtain ⟨HO_3, BK127, HI0, HK, HB⟩ := n_
          have p13 : 0 ≤ (x1001_1 : Int) := dt
          have q13 : x1001_1 < (s0_0.size : Int) := dt
          have hx13 := bt_at s0_0 x1001_1
          replace p13 := eq_true p13
          replace q13 := eq_true q13
          refine st 10 (fun w' => w'.cell? ⟨g, 0, none⟩ = some (.string s0_0) ∧ w'.cell? ⟨g, 1, none⟩ = some (.int .i64 x1001_1) ∧ w'.cell? ⟨g, 2, none⟩ = some (.bool x1002_1)) [] (bv 10 0) incunableref25_reader_text.tab4 incunableref25_reader_text.bits4 ⟨(blk_cell (Aside0.mk HI0.out.1).out 0).trans rfl, (blk_cell (Aside0.mk HI0.out.1).out 1).trans rfl, (blk_cell (Aside0.mk HI0.out.1).out 2).trans rfl⟩ (fun hHeld HT_ HW_ => ?_)
          generalize wc.drew = w57 at HO_3 BK127 HI0 HK HB hHeld ⊢
          refine pu 0 33 (bv 10 1) HT_ rfl rfl ?_
          refine pu 1 34 (bv 10 3) HT_ rfl rfl ?_
          refine pu 2 35 (bv 10 7) HT_ rfl rfl ?_
          refine pu 4 37 (bv 10 23) HT_ rfl rfl ?_
          refine pu 5 38 (bv 10 55) HT_ rfl rfl ?_
          refine pu 6 39 (bv 10 119) HT_ rfl rfl ?_
          refine tk 3 36 (bv 10 127) HT_ HW_ hHeld rfl rfl (by rintro w' ⟨s0, s1, s2⟩; exact yl) ?_
          refine tk 7 40 (bv 10 255) HT_ HW_ hHeld rfl rfl (by rintro w' ⟨s0, s1, s2⟩; exact yl) ?_
          refine tk 8 41 (bv 10 511) HT_ HW_ hHeld rfl rfl (by rintro w' ⟨s0, s1, s2⟩; exact yl) ?_
          refine pu 9 42 (bv 10 1023) HT_ rfl rfl ?_
          refine done_ (done_of HT_.out (by kernel_rfl)) ?_
          try go_wp2
          have n_ := aC (Kd.R_drew HO_3.out) (aC (blk_drew BK127.out) (aC (IsS96.drew HI0.out) (aC (keep_drew HK.out) (aE (below_drew1 HB.out)))))
          clear HO_3 BK127 HI0 HK HB
          obtain ⟨HO_3, BK127, HI0, HK, HB⟩ := n_
          have p55 : 0 ≤ (x1001_1 : Int) := dt
          have q55 : x1001_1 < (s0_0.size : Int) := dt
          have hx55 := bt_at s0_0 x1001_1
          replace p55 := eq_true p55
          replace q55 := eq_true q55
          refine st 13 (fun w' => w'.cell? ⟨g, 0, none⟩ = some (.string s0_0) ∧ w'.cell? ⟨g, 1, none⟩ = some (.int .i64 x1001_1) ∧ w'.cell? ⟨g, 2, none⟩ = some (.bool x1002_1)) [] (bv 13 0) incunableref25_reader_text.tab9 incunableref25_reader_text.bits9 ⟨(blk_cell (Aside0.mk HI0.out.1).out 0).trans rfl, (blk_cell (Aside0.mk HI0.out.1).out 1).trans rfl, (blk_cell (Aside0.mk HI0.out.1).out 2).trans rfl⟩ (fun hHeld HT_ HW_ => ?_)
          generalize w57.drew = w58 at HO_3 BK127 HI0 HK HB hHeld ⊢
          refine pu 0 88 (bv 13 1) HT_ rfl rfl ?_
          refine pu 1 89 (bv 13 3) HT_ rfl rfl ?_
          refine pu 2 90 (bv 13 7) HT_ rfl rfl ?_
          refine pu 3 91 (bv 13 15) HT_ rfl rfl ?_
          refine pu 5 93 (bv 13 47) HT_ rfl rfl ?_
          refine pu 6 94 (bv 13 111) HT_ rfl rfl ?_
          refine pu 7 95 (bv 13 239) HT_ rfl rfl ?_
          refine tk 4 92 (bv 13 255) HT_ HW_ hHeld rfl rfl (by rintro w' ⟨s0, s1, s2⟩; exact yl) ?_
          refine tk 8 96 (bv 13 511) HT_ HW_ hHeld rfl rfl (by rintro w' ⟨s0, s1, s2⟩; exact yl) ?_
          refine tk 9 97 (bv 13 1023) HT_ HW_ hHeld rfl rfl (by rintro w' ⟨s0, s1, s2⟩; exact yl) ?_
          refine one_ (i := 10) (N := some 98) (bv 13 2047) rfl rfl (one_of HT_.out (by kernel_rfl)) (by decide) (fun K hK => ?_)
          refine value_ (w1 := ?_) (v := ?_) (by rfl) rfl ?_ ?_
          rotate_left 2
          ·go_simp
           constructor
           ·rfl
           ·rfl
          refine hK.out _ _ ⟨(blk_cell (blk_alloc (Aside0.mk HI0.out.1).out _) 0).trans rfl, (blk_cell (blk_alloc (Aside0.mk HI0.out.1).out _) 1).trans rfl, (blk_cell (blk_alloc (Aside0.mk HI0.out.1).out _) 2).trans rfl⟩ (fun hHeld => ?_)
          clear hK K
          refine nm (some 98) ?_
          refine one_ (i := 11) (N := some 99) (bv 13 4095) rfl rfl (one_of HT_.out (by kernel_rfl)) (by decide) (fun K hK => ?_)
          refine Kd.R_append_step (Kd.int .u8) w.heap.size (by rfl) (.tmp 88) (.tmp 98) 44 5 (.int .u8 0) 1 rfl Tryd.underlying44 info5 rfl (by decide) (by omega) u3 x3_1 (bt s0_0 x1001_1) [.int .u8 (bt s0_0 x1001_1)] (fun _ => True) (fun _ => False) rfl rfl ?aP (fun _ hk => hk.elim) ?aF ?aO (Below.refl _ _) ?aS ?aL ?_
          (case aP => exact rfl)
          (case aF => exact (fun _ _ => trivial))
          (case aO => exact (rU HO_3.out))
          (case aS => exact (keep_size (w := w) (g := g) (row := none) (by repeat (first | (with_reducible first | exact HK.out | apply KeepBut.set_ | apply keep_drewN | apply keep_drew | apply keep_alloc | refine keep_far ?_ GW127.out _) | exact HK.out))))
          (case aL => have := LMc56.out; omega)
          intro v135 w59 ho hb hg hat
          rw [← Ny134.out] at ho
          have n_ := aC (blk_grown (bU BK127.out) hg (Kd.R_ne HO_3.out BK127.out (by decide))) (aC (IsS96.grown (by repeat (first | (with_reducible first | exact HI0.out | apply IsS96.alloc | apply IsS96.drewN | apply IsS96.drew | apply IsS96.set_0 | apply IsS96.set_1 | apply IsS96.set_2 | refine IsS96.far ?_ NB0_127.out _) | exact HI0.out)) hg (IsS96.own_ne HI0.out HO_3.out (by decide))) (aC (below_weaken (by repeat (first | (with_reducible first | exact HB.out | apply below_alloc | apply pw_below_drewN | apply below_drew1 | refine below_set ?_ (IsS96.ge HI0.out) | refine below_set ?_ GE127.out) | exact HB.out)) HL.out hb) (aC (KeepBut.trans (by repeat (first | (with_reducible first | exact HK.out | apply KeepBut.set_ | apply keep_drewN | apply keep_drew | apply keep_alloc | refine keep_far ?_ GW127.out _) | exact HK.out)) (KeepBut.of_grown hg g) (Kd.R_base2 HO_3.out)) (aE ho))))
          clear BK127 HI0 HB HK HO_3
          obtain ⟨BK127, HI0, HB, HK, HO136⟩ := n_
          clear ho hb hg hat
          refine hK.out _ _ ⟨(blk_cell (Aside0.mk HI0.out.1).out 0).trans rfl, (blk_cell (Aside0.mk HI0.out.1).out 1).trans rfl, (blk_cell (Aside0.mk HI0.out.1).out 2).trans rfl⟩ (fun hHeld => ?_)
          clear hK K
          refine nm (some 99) ?_
          refine pu 12 3 (bv 13 8191) HT_ rfl rfl ?_
          refine done_ (done_of HT_.out (by kernel_rfl)) ?_
          obtain ⟨HGz60, hgz60⟩ := HI0.out
          have hcz60_0 := cellS96_0 HGz60
          have hcz60_1 := cellS96_1 HGz60
          have hcz60_2 := cellS96_2 HGz60
          have hfz60_0 := blk_frozen HGz60 0
          have hfz60_1 := blk_frozen HGz60 1
          have hfz60_2 := blk_frozen HGz60 2
          clear HGz60 hgz60
          try go_wp2
          go_roundg kj3
          case measure => have := HK1.out; have := HJ3.out; omega
          case rel => exact ⟨(y134), (wrap64 (x1001_1 + 1)), (x1002_1), (x128000_1), (x128001_1), (x128002_1), H', ⟨by have := HK1.out; have := HJ3.out; omega⟩, ⟨rU (Kd.R_mono (Kd.R_far (p := ⟨g, 1, none⟩) (IsS96.apart HI0.out HO136.out (by decide)) (fun _ hk => hk.2) (.int .i64 (wrap64 (x1001_1 + 1)))) (fun _ hk => trivial))⟩, ⟨by (with_reducible repeat (first | refine blk_drewN ?_ _ | refine blk_drew ?_ | refine blk_alloc ?_ _)); refine blk_far ?_ NB127_0.out _; (with_reducible repeat (first | refine blk_drewN ?_ _ | refine blk_drew ?_ | refine blk_alloc ?_ _)); exact BK127.out⟩, ⟨by repeat (first | (with_reducible first | exact HI0.out | apply IsS96.alloc | apply IsS96.drewN | apply IsS96.drew | apply IsS96.set_0 | apply IsS96.set_1 | apply IsS96.set_2 | refine IsS96.far ?_ NB0_127.out _) | exact HI0.out)⟩, ⟨by repeat (first | (with_reducible first | exact HK.out | apply KeepBut.set_ | apply keep_drewN | apply keep_drew | apply keep_alloc | refine keep_far ?_ GW127.out _) | exact HK.out)⟩, ⟨by repeat (first | (with_reducible first | exact HB.out | apply below_alloc | apply pw_below_drewN | apply below_drew1 | refine below_set ?_ (IsS96.ge HI0.out) | refine below_set ?_ GE127.out) | exact HB.out)⟩⟩
         ·rw [if_neg c56] at H
          exact absurd H (by simp)
       ·rw [if_neg c12] at H
        exact absurd H (by simp)
      ·rw [if_neg c11] at H
       exact absurd H (by simp)
     ·replace c10 := Bool.eq_false_iff.mpr c10
      subst c10
      rw [if_neg Bool.false_ne_true] at H
      by_cases c61 : x1002_1 = true
      ·subst c61
       rw [if_pos rfl] at H
       simp only [Option.some.injEq, Prod.mk.injEq] at H
       obtain ⟨rfl, rfl, rfl, rfl, rfl, rfl, rfl⟩ := H
       try go_wp2
       have n_ := aC (Kd.R_drew HO_3.out) (aC (blk_drew BK127.out) (aC (IsS96.drew HI0.out) (aC (keep_drew HK.out) (aE (below_drew1 HB.out)))))
       clear HO_3 BK127 HI0 HK HB
       obtain ⟨HO_3, BK127, HI0, HK, HB⟩ := n_
       refine st 25 (fun w' => w'.cell? ⟨g, 0, none⟩ = some (.string s0_0) ∧ w'.cell? ⟨g, 1, none⟩ = some (.int .i64 x1001_1) ∧ w'.cell? ⟨g, 2, none⟩ = some (.bool true)) [24] (bv 25 0) incunableref25_reader_text.tab11 incunableref25_reader_text.bits11 ⟨(blk_cell (Aside0.mk HI0.out.1).out 0).trans rfl, (blk_cell (Aside0.mk HI0.out.1).out 1).trans rfl, (blk_cell (Aside0.mk HI0.out.1).out 2).trans rfl⟩ (fun hHeld HT_ HW_ => ?_)
       generalize wc.drew = w62 at HO_3 BK127 HI0 HK HB hHeld ⊢
       refine pu 0 107 (bv 25 1) HT_ rfl rfl ?_
       refine pu 1 108 (bv 25 3) HT_ rfl rfl ?_
       refine pu 2 109 (bv 25 7) HT_ rfl rfl ?_
       refine pu 3 110 (bv 25 15) HT_ rfl rfl ?_
       refine tk 4 111 (bv 25 31) HT_ HW_ hHeld rfl rfl (by rintro w' ⟨s0, s1, s2⟩; exact yl) ?_
       refine pu 5 112 (bv 25 63) HT_ rfl rfl ?_
       refine pn 6 113 (bv 25 127) HT_ rfl rfl ?_
       refine pn 7 114 (bv 25 255) HT_ rfl rfl ?_
       refine pn 8 115 (bv 25 511) HT_ rfl rfl ?_
       refine pn 9 116 (bv 25 1023) HT_ rfl rfl ?_
       refine pn 10 117 (bv 25 2047) HT_ rfl rfl ?_
       refine pn 11 118 (bv 25 4095) HT_ rfl rfl ?_
       refine pn 12 119 (bv 25 8191) HT_ rfl rfl ?_
       refine pn 13 120 (bv 25 16383) HT_ rfl rfl ?_
       refine pn 14 121 (bv 25 32767) HT_ rfl rfl ?_
       refine pn 15 122 (bv 25 65535) HT_ rfl rfl ?_
       refine pu 16 123 (bv 25 131071) HT_ rfl rfl ?_
       refine pu 17 124 (bv 25 262143) HT_ rfl rfl ?_
       refine pn 18 125 (bv 25 524287) HT_ rfl rfl ?_
       refine pn 19 126 (bv 25 1048575) HT_ rfl rfl ?_
       refine pn 20 127 (bv 25 2097151) HT_ rfl rfl ?_
       refine pu 21 128 (bv 25 4194303) HT_ rfl rfl ?_
       refine pu 22 129 (bv 25 8388607) HT_ rfl rfl ?_
       refine pu 23 130 (bv 25 16777215) HT_ rfl rfl ?_
       refine last_ (i := 24) (N := none) (bv 25 33554431) rfl rfl (one_of HT_.out (by kernel_rfl)) (by decide) (fun K hK => ?_)
       have hfS0_ := blk_frozen HI0.out.1 0
       have hfS1_ := blk_frozen HI0.out.1 1
       have hfS2_ := blk_frozen HI0.out.1 2
       refine skip_ (w1 := ?_) (by rfl) rfl ?_ ?_
       rotate_left
       ·go_simp
        rfl
       refine hK.out _ _ ?_
       clear hK K
       refine done_ (done_of HT_.out (by kernel_rfl)) ?_
       obtain ⟨HGz63, hgz63⟩ := HI0.out
       have hcz63_0 := cellS96_0 HGz63
       have hcz63_1 := cellS96_1 HGz63
       have hcz63_2 := cellS96_2 HGz63
       have hfz63_0 := blk_frozen HGz63 0
       have hfz63_1 := blk_frozen HGz63 1
       have hfz63_2 := blk_frozen HGz63 2
       clear HGz63 hgz63
       have hcv64 := own_string (P := Tryd.prog) Tryd.underlying44 Tryd.underlying5 Tryd.underlying9 (Kd.own_of_R (R_keepT HO_3.out (show KeepBut w62 ((w62.setCell ⟨g, 2, none⟩ (.bool (true))).setCell ⟨g, 1, none⟩ (.int .i64 (wrap64 (x1001_1 + 1)))) g none from ((KeepBut.refl _ _ _).set_ 2 _).set_ 1 _) GLT.out))
       have hcv64b1 := own_string (P := Tryd.prog) Tryd.underlying44 Tryd.underlying5 Tryd.underlying9 (Kd.own_of_R (R_keepT HO_3.out (show KeepBut w62 ((w62.setCell ⟨g, 2, none⟩ (.bool (decide (200 < (x3_1.length : Int))))).setCell ⟨g, 1, none⟩ (.int .i64 (wrap64 (x1001_1 + 1)))) g none from ((KeepBut.refl _ _ _).set_ 2 _).set_ 1 _) GLT.out))
       have hcv64b2 := own_string (P := Tryd.prog) Tryd.underlying44 Tryd.underlying5 Tryd.underlying9 (Kd.own_of_R (R_keepT HO_3.out (show KeepBut w62 ((w62.setCell ⟨g, 2, none⟩ (.bool (decide ((x3_1.length : Int) > 200)))).setCell ⟨g, 1, none⟩ (.int .i64 (wrap64 (x1001_1 + 1)))) g none from ((KeepBut.refl _ _ _).set_ 2 _).set_ 1 _) GLT.out))
       have hnb65 := NB127_0.out
       have hnc65 := NB0_127.out
       obtain ⟨hcz66_0, hcz66_1, hcz66_2, hcz66_3, hfz66_0, hfz66_1, hfz66_2, hfz66_3⟩ := cz4f BK127.out
       try go_wp2
       refine bodyPost_ret (results_cell_row rfl _ _ gb127 33 #[.int .i64 3, .string (strOfNums x3_1), .int .i64 0, .slice none 0 0] (0, 0) _ rfl (by (with_reducible repeat (first | refine blk_drewN ?_ _ | refine blk_drew ?_ | refine blk_alloc ?_ _)); refine blk_put (cs := #[.int .i64 3, .string (strOfNums x3_1), .int .i64 0, .slice none 0 0]) ?_ 3 _ rfl; (with_reducible repeat (first | refine blk_drewN ?_ _ | refine blk_drew ?_ | refine blk_alloc ?_ _)); refine blk_put (cs := #[.int .i64 3, .string (strOfNums x3_1), .int .i64 x128002_1, .slice none 0 0]) ?_ 2 _ rfl; (with_reducible repeat (first | refine blk_drewN ?_ _ | refine blk_drew ?_ | refine blk_alloc ?_ _)); refine blk_put (cs := #[.int .i64 3, .string x128001_1, .int .i64 x128002_1, .slice none 0 0]) ?_ 1 _ rfl; (with_reducible repeat (first | refine blk_drewN ?_ _ | refine blk_drew ?_ | refine blk_alloc ?_ _)); refine blk_put (cs := #[.int .i64 x128000_1, .string x128001_1, .int .i64 x128002_1, .slice none 0 0]) ?_ 0 _ rfl; (with_reducible repeat (first | refine blk_drewN ?_ _ | refine blk_drew ?_ | refine blk_alloc ?_ _)); refine blk_far ?_ NB127_0.out _; (with_reducible repeat (first | refine blk_drewN ?_ _ | refine blk_drew ?_ | refine blk_alloc ?_ _)); refine blk_far ?_ NB127_0.out _; (with_reducible repeat (first | refine blk_drewN ?_ _ | refine blk_drew ?_ | refine blk_alloc ?_ _)); exact BK127.out) Tryd.underlying33 rfl (by kernel_rfl)) rfl ?_
       exact ⟨_, re, by first | exact Kd.R_nil _ _ _ _ _ | exact Kd.N_nil _ _ _ _ _ | exact Kd.V_nil _ _ _ _ _ | exact Kd.Q_nil _ _ _ _ _ | exact Kd.S_nil _ _ _ _ _, by repeat (first | (with_reducible first | exact HI0.out | apply IsS96.alloc | apply IsS96.drewN | apply IsS96.drew | apply IsS96.set_0 | apply IsS96.set_1 | apply IsS96.set_2 | refine IsS96.far ?_ NB0_127.out _) | exact HI0.out), by repeat (first | (with_reducible first | exact HB.out | apply below_alloc | apply pw_below_drewN | apply below_drew1 | refine below_set ?_ (IsS96.ge HI0.out) | refine below_set ?_ GE127.out) | exact HB.out), by repeat (first | (with_reducible first | exact HK.out | apply KeepBut.set_ | apply keep_drewN | apply keep_drew | apply keep_alloc | refine keep_far ?_ GW127.out _) | exact HK.out)⟩
      ·replace c61 := Bool.eq_false_iff.mpr c61
       subst c61
       rw [if_neg Bool.false_ne_true] at H
       rcases iL H with H1 | H1 <;> clear H <;> obtain ⟨H, c67b0⟩ := H1
       ·simp only [Option.some.injEq, Prod.mk.injEq] at H
        obtain ⟨rfl, rfl, rfl, rfl, rfl, rfl, rfl⟩ := H
        try go_wp2
        have n_ := aC (Kd.R_drew HO_3.out) (aC (blk_drew BK127.out) (aC (IsS96.drew HI0.out) (aC (keep_drew HK.out) (aE (below_drew1 HB.out)))))
        clear HO_3 BK127 HI0 HK HB
        obtain ⟨HO_3, BK127, HI0, HK, HB⟩ := n_
        refine st 25 (fun w' => w'.cell? ⟨g, 0, none⟩ = some (.string s0_0) ∧ w'.cell? ⟨g, 1, none⟩ = some (.int .i64 x1001_1) ∧ w'.cell? ⟨g, 2, none⟩ = some (.bool false)) [24] (bv 25 0) incunableref25_reader_text.tab11 incunableref25_reader_text.bits11 ⟨(blk_cell (Aside0.mk HI0.out.1).out 0).trans rfl, (blk_cell (Aside0.mk HI0.out.1).out 1).trans rfl, (blk_cell (Aside0.mk HI0.out.1).out 2).trans rfl⟩ (fun hHeld HT_ HW_ => ?_)
        generalize wc.drew = w68 at HO_3 BK127 HI0 HK HB hHeld ⊢
        refine pu 0 107 (bv 25 1) HT_ rfl rfl ?_
        refine pu 1 108 (bv 25 3) HT_ rfl rfl ?_
        refine pu 2 109 (bv 25 7) HT_ rfl rfl ?_
        refine pu 3 110 (bv 25 15) HT_ rfl rfl ?_
        refine tk 4 111 (bv 25 31) HT_ HW_ hHeld rfl rfl (by rintro w' ⟨s0, s1, s2⟩; exact yl) ?_
        refine pu 5 112 (bv 25 63) HT_ rfl rfl ?_
        refine pu 6 113 (bv 25 127) HT_ rfl rfl ?_
        refine pu 7 114 (bv 25 255) HT_ rfl rfl ?_
        refine pu 8 115 (bv 25 511) HT_ rfl rfl ?_
        refine pu 10 117 (bv 25 1535) HT_ rfl rfl ?_
        refine pu 11 118 (bv 25 3583) HT_ rfl rfl ?_
        refine pu 12 119 (bv 25 7679) HT_ rfl rfl ?_
        refine tk 9 116 (bv 25 8191) HT_ HW_ hHeld rfl rfl (by rintro w' ⟨s0, s1, s2⟩; exact yl) ?_
        refine tk 13 120 (bv 25 16383) HT_ HW_ hHeld rfl rfl (by rintro w' ⟨s0, s1, s2⟩; exact yl) ?_
        refine pu 14 121 (bv 25 32767) HT_ rfl rfl ?_
        refine pu 15 122 (bv 25 65535) HT_ rfl rfl ?_
        refine pu 16 123 (bv 25 131071) HT_ rfl rfl ?_
        refine pu 17 124 (bv 25 262143) HT_ rfl rfl ?_
        refine pn 18 125 (bv 25 524287) HT_ rfl rfl ?_
        refine pn 19 126 (bv 25 1048575) HT_ rfl rfl ?_
        refine pn 20 127 (bv 25 2097151) HT_ rfl rfl ?_
        refine pu 21 128 (bv 25 4194303) HT_ rfl rfl ?_
        refine pu 22 129 (bv 25 8388607) HT_ rfl rfl ?_
        refine pu 23 130 (bv 25 16777215) HT_ rfl rfl ?_
        refine last_ (i := 24) (N := none) (bv 25 33554431) rfl rfl (one_of HT_.out (by kernel_rfl)) (by decide) (fun K hK => ?_)
        have hfS0_ := blk_frozen HI0.out.1 0
        have hfS1_ := blk_frozen HI0.out.1 1
        have hfS2_ := blk_frozen HI0.out.1 2
        refine skip_ (w1 := ?_) (by rfl) rfl ?_ ?_
        rotate_left
        ·go_simp
         rfl
        refine hK.out _ _ ?_
        clear hK K
        refine done_ (done_of HT_.out (by kernel_rfl)) ?_
        obtain ⟨HGz69, hgz69⟩ := HI0.out
        have hcz69_0 := cellS96_0 HGz69
        have hcz69_1 := cellS96_1 HGz69
        have hcz69_2 := cellS96_2 HGz69
        have hfz69_0 := blk_frozen HGz69 0
        have hfz69_1 := blk_frozen HGz69 1
        have hfz69_2 := blk_frozen HGz69 2
        clear HGz69 hgz69
        have hcv70 := own_string (P := Tryd.prog) Tryd.underlying44 Tryd.underlying5 Tryd.underlying9 (Kd.own_of_R (R_keepT HO_3.out (show KeepBut w68 ((w68.setCell ⟨g, 2, none⟩ (.bool (true))).setCell ⟨g, 1, none⟩ (.int .i64 (wrap64 (x1001_1 + 1)))) g none from ((KeepBut.refl _ _ _).set_ 2 _).set_ 1 _) GLT.out))
        have hcv70b1 := own_string (P := Tryd.prog) Tryd.underlying44 Tryd.underlying5 Tryd.underlying9 (Kd.own_of_R (R_keepT HO_3.out (show KeepBut w68 ((w68.setCell ⟨g, 2, none⟩ (.bool (decide (200 < (x3_1.length : Int))))).setCell ⟨g, 1, none⟩ (.int .i64 (wrap64 (x1001_1 + 1)))) g none from ((KeepBut.refl _ _ _).set_ 2 _).set_ 1 _) GLT.out))
        have hcv70b2 := own_string (P := Tryd.prog) Tryd.underlying44 Tryd.underlying5 Tryd.underlying9 (Kd.own_of_R (R_keepT HO_3.out (show KeepBut w68 ((w68.setCell ⟨g, 2, none⟩ (.bool (decide ((x3_1.length : Int) > 200)))).setCell ⟨g, 1, none⟩ (.int .i64 (wrap64 (x1001_1 + 1)))) g none from ((KeepBut.refl _ _ _).set_ 2 _).set_ 1 _) GLT.out))
        have hnb71 := NB127_0.out
        have hnc71 := NB0_127.out
        obtain ⟨hcz72_0, hcz72_1, hcz72_2, hcz72_3, hfz72_0, hfz72_1, hfz72_2, hfz72_3⟩ := cz4f BK127.out
        try go_wp2
        refine bodyPost_ret (results_cell_row rfl _ _ gb127 33 #[.int .i64 3, .string (strOfNums x3_1), .int .i64 0, .slice none 0 0] (0, 0) _ rfl (by (with_reducible repeat (first | refine blk_drewN ?_ _ | refine blk_drew ?_ | refine blk_alloc ?_ _)); refine blk_put (cs := #[.int .i64 3, .string (strOfNums x3_1), .int .i64 0, .slice none 0 0]) ?_ 3 _ rfl; (with_reducible repeat (first | refine blk_drewN ?_ _ | refine blk_drew ?_ | refine blk_alloc ?_ _)); refine blk_put (cs := #[.int .i64 3, .string (strOfNums x3_1), .int .i64 x128002_1, .slice none 0 0]) ?_ 2 _ rfl; (with_reducible repeat (first | refine blk_drewN ?_ _ | refine blk_drew ?_ | refine blk_alloc ?_ _)); refine blk_put (cs := #[.int .i64 3, .string x128001_1, .int .i64 x128002_1, .slice none 0 0]) ?_ 1 _ rfl; (with_reducible repeat (first | refine blk_drewN ?_ _ | refine blk_drew ?_ | refine blk_alloc ?_ _)); refine blk_put (cs := #[.int .i64 x128000_1, .string x128001_1, .int .i64 x128002_1, .slice none 0 0]) ?_ 0 _ rfl; (with_reducible repeat (first | refine blk_drewN ?_ _ | refine blk_drew ?_ | refine blk_alloc ?_ _)); refine blk_far ?_ NB127_0.out _; (with_reducible repeat (first | refine blk_drewN ?_ _ | refine blk_drew ?_ | refine blk_alloc ?_ _)); refine blk_far ?_ NB127_0.out _; (with_reducible repeat (first | refine blk_drewN ?_ _ | refine blk_drew ?_ | refine blk_alloc ?_ _)); exact BK127.out) Tryd.underlying33 rfl (by kernel_rfl)) rfl ?_
        exact ⟨_, re, by first | exact Kd.R_nil _ _ _ _ _ | exact Kd.N_nil _ _ _ _ _ | exact Kd.V_nil _ _ _ _ _ | exact Kd.Q_nil _ _ _ _ _ | exact Kd.S_nil _ _ _ _ _, by repeat (first | (with_reducible first | exact HI0.out | apply IsS96.alloc | apply IsS96.drewN | apply IsS96.drew | apply IsS96.set_0 | apply IsS96.set_1 | apply IsS96.set_2 | refine IsS96.far ?_ NB0_127.out _) | exact HI0.out), by repeat (first | (with_reducible first | exact HB.out | apply below_alloc | apply pw_below_drewN | apply below_drew1 | refine below_set ?_ (IsS96.ge HI0.out) | refine below_set ?_ GE127.out) | exact HB.out), by repeat (first | (with_reducible first | exact HK.out | apply KeepBut.set_ | apply keep_drewN | apply keep_drew | apply keep_alloc | refine keep_far ?_ GW127.out _) | exact HK.out)⟩
       ·simp only [Option.some.injEq, Prod.mk.injEq] at H
        obtain ⟨rfl, rfl, rfl, rfl, rfl, rfl, rfl⟩ := H
        try go_wp2
        have n_ := aC (Kd.R_drew HO_3.out) (aC (blk_drew BK127.out) (aC (IsS96.drew HI0.out) (aC (keep_drew HK.out) (aE (below_drew1 HB.out)))))
        clear HO_3 BK127 HI0 HK HB
        obtain ⟨HO_3, BK127, HI0, HK, HB⟩ := n_
        obtain ⟨Ao74, co74, eo74⟩ := Kd.R_slice HO_3.out
        (first | subst eo74 | (injection eo74 with f1_ f2_ f3_; have f4_ := f1_.symm; have f5_ := f3_.symm; clear f1_ f2_ f3_; subst f4_; subst f5_))
        refine st 25 (fun w' => w'.cell? ⟨g, 0, none⟩ = some (.string s0_0) ∧ w'.cell? ⟨g, 1, none⟩ = some (.int .i64 x1001_1) ∧ w'.cell? ⟨g, 2, none⟩ = some (.bool false)) [24] (bv 25 0) incunableref25_reader_text.tab11 incunableref25_reader_text.bits11 ⟨(blk_cell (Aside0.mk HI0.out.1).out 0).trans rfl, (blk_cell (Aside0.mk HI0.out.1).out 1).trans rfl, (blk_cell (Aside0.mk HI0.out.1).out 2).trans rfl⟩ (fun hHeld HT_ HW_ => ?_)
        generalize wc.drew = w73 at HO_3 BK127 HI0 HK HB hHeld ⊢
        refine pu 0 107 (bv 25 1) HT_ rfl rfl ?_
        refine pu 1 108 (bv 25 3) HT_ rfl rfl ?_
        refine pu 2 109 (bv 25 7) HT_ rfl rfl ?_
        refine pu 3 110 (bv 25 15) HT_ rfl rfl ?_
        refine tk 4 111 (bv 25 31) HT_ HW_ hHeld rfl rfl (by rintro w' ⟨s0, s1, s2⟩; exact yl) ?_
        refine pu 5 112 (bv 25 63) HT_ rfl rfl ?_
        refine pu 6 113 (bv 25 127) HT_ rfl rfl ?_
        refine pu 7 114 (bv 25 255) HT_ rfl rfl ?_
        refine pu 8 115 (bv 25 511) HT_ rfl rfl ?_
        refine pu 10 117 (bv 25 1535) HT_ rfl rfl ?_
        refine pu 11 118 (bv 25 3583) HT_ rfl rfl ?_
        refine pu 12 119 (bv 25 7679) HT_ rfl rfl ?_
        refine tk 9 116 (bv 25 8191) HT_ HW_ hHeld rfl rfl (by rintro w' ⟨s0, s1, s2⟩; exact yl) ?_
        refine tk 13 120 (bv 25 16383) HT_ HW_ hHeld rfl rfl (by rintro w' ⟨s0, s1, s2⟩; exact yl) ?_
        refine pu 14 121 (bv 25 32767) HT_ rfl rfl ?_
        refine pu 15 122 (bv 25 65535) HT_ rfl rfl ?_
        refine pu 16 123 (bv 25 131071) HT_ rfl rfl ?_
        refine pu 17 124 (bv 25 262143) HT_ rfl rfl ?_
        refine pu 18 125 (bv 25 524287) HT_ rfl rfl ?_
        refine pu 19 126 (bv 25 1048575) HT_ rfl rfl ?_
        refine pu 20 127 (bv 25 2097151) HT_ rfl rfl ?_
        refine pu 21 128 (bv 25 4194303) HT_ rfl rfl ?_
        refine pu 22 129 (bv 25 8388607) HT_ rfl rfl ?_
        refine pu 23 130 (bv 25 16777215) HT_ rfl rfl ?_
        refine last_ (i := 24) (N := none) (bv 25 33554431) rfl rfl (one_of HT_.out (by kernel_rfl)) (by decide) (fun K hK => ?_)
        have hfS0_ := blk_frozen HI0.out.1 0
        have hfS1_ := blk_frozen HI0.out.1 1
        have hfS2_ := blk_frozen HI0.out.1 2
        refine skip_ (w1 := ?_) (by rfl) rfl ?_ ?_
        rotate_left
        ·go_simp
         rfl
        refine hK.out _ _ ?_
        clear hK K
        refine done_ (done_of HT_.out (by kernel_rfl)) ?_
        obtain ⟨HGz75, hgz75⟩ := HI0.out
        have hcz75_0 := cellS96_0 HGz75
        have hcz75_1 := cellS96_1 HGz75
        have hcz75_2 := cellS96_2 HGz75
        have hfz75_0 := blk_frozen HGz75 0
        have hfz75_1 := blk_frozen HGz75 1
        have hfz75_2 := blk_frozen HGz75 2
        clear HGz75 hgz75
        have hcv76 := own_string (P := Tryd.prog) Tryd.underlying44 Tryd.underlying5 Tryd.underlying9 (Kd.own_of_R (R_keepT HO_3.out (show KeepBut w73 ((w73.setCell ⟨g, 2, none⟩ (.bool (true))).setCell ⟨g, 1, none⟩ (.int .i64 (wrap64 (x1001_1 + 1)))) g none from ((KeepBut.refl _ _ _).set_ 2 _).set_ 1 _) GLT.out))
        have hcv76b1 := own_string (P := Tryd.prog) Tryd.underlying44 Tryd.underlying5 Tryd.underlying9 (Kd.own_of_R (R_keepT HO_3.out (show KeepBut w73 ((w73.setCell ⟨g, 2, none⟩ (.bool (decide (200 < (x3_1.length : Int))))).setCell ⟨g, 1, none⟩ (.int .i64 (wrap64 (x1001_1 + 1)))) g none from ((KeepBut.refl _ _ _).set_ 2 _).set_ 1 _) GLT.out))
        have hcv76b2 := own_string (P := Tryd.prog) Tryd.underlying44 Tryd.underlying5 Tryd.underlying9 (Kd.own_of_R (R_keepT HO_3.out (show KeepBut w73 ((w73.setCell ⟨g, 2, none⟩ (.bool (decide ((x3_1.length : Int) > 200)))).setCell ⟨g, 1, none⟩ (.int .i64 (wrap64 (x1001_1 + 1)))) g none from ((KeepBut.refl _ _ _).set_ 2 _).set_ 1 _) GLT.out))
        have hnb77 := NB127_0.out
        have hnc77 := NB0_127.out
        obtain ⟨hcz78_0, hcz78_1, hcz78_2, hcz78_3, hfz78_0, hfz78_1, hfz78_2, hfz78_3⟩ := cz4f BK127.out
        try go_wp2
        refine bodyPost_ret (results_cell_row rfl _ _ gb127 33 #[.int .i64 3, .string (strOfNums x3_1), .int .i64 0, .slice none 0 0] (0, 0) _ rfl (by (with_reducible repeat (first | refine blk_drewN ?_ _ | refine blk_drew ?_ | refine blk_alloc ?_ _)); refine blk_put (cs := #[.int .i64 3, .string (strOfNums x3_1), .int .i64 0, .slice none 0 0]) ?_ 3 _ rfl; (with_reducible repeat (first | refine blk_drewN ?_ _ | refine blk_drew ?_ | refine blk_alloc ?_ _)); refine blk_put (cs := #[.int .i64 3, .string (strOfNums x3_1), .int .i64 x128002_1, .slice none 0 0]) ?_ 2 _ rfl; (with_reducible repeat (first | refine blk_drewN ?_ _ | refine blk_drew ?_ | refine blk_alloc ?_ _)); refine blk_put (cs := #[.int .i64 3, .string x128001_1, .int .i64 x128002_1, .slice none 0 0]) ?_ 1 _ rfl; (with_reducible repeat (first | refine blk_drewN ?_ _ | refine blk_drew ?_ | refine blk_alloc ?_ _)); refine blk_put (cs := #[.int .i64 x128000_1, .string x128001_1, .int .i64 x128002_1, .slice none 0 0]) ?_ 0 _ rfl; (with_reducible repeat (first | refine blk_drewN ?_ _ | refine blk_drew ?_ | refine blk_alloc ?_ _)); refine blk_far ?_ NB127_0.out _; (with_reducible repeat (first | refine blk_drewN ?_ _ | refine blk_drew ?_ | refine blk_alloc ?_ _)); refine blk_far ?_ NB127_0.out _; (with_reducible repeat (first | refine blk_drewN ?_ _ | refine blk_drew ?_ | refine blk_alloc ?_ _)); exact BK127.out) Tryd.underlying33 rfl (by kernel_rfl)) rfl ?_
        exact ⟨_, re, by first | exact Kd.R_nil _ _ _ _ _ | exact Kd.N_nil _ _ _ _ _ | exact Kd.V_nil _ _ _ _ _ | exact Kd.Q_nil _ _ _ _ _ | exact Kd.S_nil _ _ _ _ _, by repeat (first | (with_reducible first | exact HI0.out | apply IsS96.alloc | apply IsS96.drewN | apply IsS96.drew | apply IsS96.set_0 | apply IsS96.set_1 | apply IsS96.set_2 | refine IsS96.far ?_ NB0_127.out _) | exact HI0.out), by repeat (first | (with_reducible first | exact HB.out | apply below_alloc | apply pw_below_drewN | apply below_drew1 | refine below_set ?_ (IsS96.ge HI0.out) | refine below_set ?_ GE127.out) | exact HB.out), by repeat (first | (with_reducible first | exact HK.out | apply KeepBut.set_ | apply keep_drewN | apply keep_drew | apply keep_alloc | refine keep_far ?_ GW127.out _) | exact HK.out)⟩
end Go.Proofs.YtacdchogjpeffaaDoor.PNoteParses
