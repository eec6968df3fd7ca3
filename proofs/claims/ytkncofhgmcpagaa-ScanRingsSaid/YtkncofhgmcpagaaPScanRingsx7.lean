-- Written by a program of this session (wip/tools/myprint.py) over the kit's print. Not trusted: Lean checks it.
import Derived.Test.YtkncofhgmcpagaaPScanRingsx0
import Derived.Test.YtkncofhgmcpagaaPScanRingsx1
import Derived.Test.YtkncofhgmcpagaaPScanRingsx2
import Derived.Test.YtkncofhgmcpagaaPScanRingsx4
import Derived.Test.YtkncofhgmcpagaaPScanRingsx5
import Derived.Test.YtkncofhgmcpagaaPScanRingsx6
namespace Go.Proofs.Ytkncofhgmcpagaa.PScanRings
open Go.RowKit Go.Proofs.YtkncofhgmcpagaaW.PrintWords Go.Proofs.YtkncofhgmcpagaaW.PrintLast Go.Proofs.YtkncofhgmcpagaaW.PrintMore
attribute [local go_sem] max2_int min2_int max_two min_two max_three min_three max_four min_four   -- for this text's walks alone
set_option linter.unusedVariables false
set_option linter.unusedSimpArgs false

/-! ### incunablelaw29_ScanRings: function 6 -/
def incunablelaw29_ScanRings.j0 : Nat → Int → Int → Int → Bool → Int → Int → List Int → Int → Int → List Int → Int → Int → List Int → Option (Bool)
  | 0, _, _, _, _, _, _, _, _, _, _, _, _, _ => none
  | k + 1, x1, x2, x8, x66, x223000, x223001, x223002, x232000, x232001, x232002, x246000, x246001, x246002 => if x66 = true then (some false) else (if x8 = 0 then ((scan_Ring.f k x232000 x232001 x232002 (wrap64 (-x1)) x2).bind fun bt256 => (if bt256.2.2.2 = 0 then ((incunableref05_Same.f bt256.1 bt256.2.1 bt256.2.2.1 x223000 x223001 x223002).bind fun t263 => (if t263 = true then ((incunableref05_Blacks.f k x232000 x232001 x232002).bind fun t264 => ((incunableref05_Blacks.f k x223000 x223001 x223002).bind fun t265 => (if t264 = t265 then ((incunableref05_Blacks.f k x246000 x246001 x246002).bind fun t266 => ((incunableref05_Blacks.f k x223000 x223001 x223002).bind fun t267 => (if t266 = t267 then ((incunablelaw29_Sane.f k).bind fun t268 => (some t268)) else (some false)))) else (some false)))) else (some false))) else (some false))) else ((incunablelaw29_Sane.f k).bind fun t255 => (some t255)))
def incunablelaw29_ScanRings.f (k : Nat) (a0_0 : Int) (a0_1 : Int) (l0_2 : List Int) (a1 : Int) (a2 : Int) : Option (Bool) := (incunablelaw29_Large.f a0_0 a0_1 l0_2).bind fun t223 => (if t223 = true then ((incunablelaw29_Sane.f k).bind fun t224 => (some t224)) else ((scan_Ring.f k a0_0 a0_1 l0_2 a1 a2).bind fun bt225 => ((incunableref29_Ring.f k a0_0 a0_1 l0_2 a1 a2).bind fun bt232 => ((scan_Columns.f k a0_0 a0_1 l0_2 a1 a2).bind fun bt239 => ((incunableref29_Columns.f k a0_0 a0_1 l0_2 a1 a2).bind fun bt246 => (if bt225.2.2.2 = bt232.2.2.2 then (if bt239.2.2.2 = bt246.2.2.2 then ((incunableref05_Same.f bt225.1 bt225.2.1 bt225.2.2.1 bt232.1 bt232.2.1 bt232.2.2.1).bind fun t253 => (if t253 = true then ((incunableref05_Same.f bt239.1 bt239.2.1 bt239.2.2.1 bt246.1 bt246.2.1 bt246.2.2.1).bind fun t254 => (incunablelaw29_ScanRings.j0 k a1 a2 bt225.2.2.2 (!t254) a0_0 a0_1 l0_2 bt225.1 bt225.2.1 bt225.2.2.1 bt239.1 bt239.2.1 bt239.2.2.1)) else (incunablelaw29_ScanRings.j0 k a1 a2 bt225.2.2.2 true a0_0 a0_1 l0_2 bt225.1 bt225.2.1 bt225.2.2.1 bt239.1 bt239.2.1 bt239.2.2.1))) else (incunablelaw29_ScanRings.j0 k a1 a2 bt225.2.2.2 true a0_0 a0_1 l0_2 bt225.1 bt225.2.1 bt225.2.2.1 bt239.1 bt239.2.1 bt239.2.2.1)) else (incunablelaw29_ScanRings.j0 k a1 a2 bt225.2.2.2 true a0_0 a0_1 l0_2 bt225.1 bt225.2.1 bt225.2.2.1 bt239.1 bt239.2.1 bt239.2.2.1)))))))
theorem incunablelaw29_ScanRings.mono_l : ∀ k, (∀ y0 y1 y2 y3 y4 y5 y6 y7 y8 y9 y10 y11 y12, LeO (incunablelaw29_ScanRings.j0 k y0 y1 y2 y3 y4 y5 y6 y7 y8 y9 y10 y11 y12) (incunablelaw29_ScanRings.j0 (k + 1) y0 y1 y2 y3 y4 y5 y6 y7 y8 y9 y10 y11 y12))
  | 0 => fun _ _ _ _ _ _ _ _ _ _ _ _ _ r h => by simp [incunablelaw29_ScanRings.j0] at h
  | k + 1 => by
    have ih0 := incunablelaw29_ScanRings.mono_l k
    · intro y0 y1 y2 y3 y4 y5 y6 y7 y8 y9 y10 y11 y12
      unfold incunablelaw29_ScanRings.j0
      repeat' first
      | (with_reducible exact ih0 _ _ _ _ _ _ _ _ _ _ _ _ _)
      | (with_reducible exact incunablelaw29_Sane.mono _)
      | (with_reducible exact incunableref05_Blacks.mono _ _ _ _)
      | (with_reducible exact incunableref29_Columns.mono _ _ _ _ _ _)
      | (with_reducible exact incunableref29_Ring.mono _ _ _ _ _ _)
      | (with_reducible exact scan_Columns.mono _ _ _ _ _ _)
      | (with_reducible exact scan_Ring.mono _ _ _ _ _ _)
      | (with_reducible exact LeO.refl _)
      | (with_reducible exact LeO.none _)
      | (with_reducible refine LeO.ite ?_ ?_)
      | (with_reducible refine LeO.bind ?_ (fun _ => ?_))
      | exact ih0 _ _ _ _ _ _ _ _ _ _ _ _ _
      | exact incunablelaw29_Sane.mono _
      | exact incunableref05_Blacks.mono _ _ _ _
      | exact incunableref29_Columns.mono _ _ _ _ _ _
      | exact incunableref29_Ring.mono _ _ _ _ _ _
      | exact scan_Columns.mono _ _ _ _ _ _
      | exact scan_Ring.mono _ _ _ _ _ _
      | exact LeO.none _
      | refine LeO.ite ?_ ?_
      | refine LeO.bind ?_ (fun _ => ?_)
theorem incunablelaw29_ScanRings.mono : ∀ a0 a1 a2 a3 a4 k, LeO (incunablelaw29_ScanRings.f k a0 a1 a2 a3 a4) (incunablelaw29_ScanRings.f (k + 1) a0 a1 a2 a3 a4) := by
  intro a0 a1 a2 a3 a4 k
  have ih0 := incunablelaw29_ScanRings.mono_l k
  unfold incunablelaw29_ScanRings.f
  repeat' first
      | (with_reducible exact ih0 _ _ _ _ _ _ _ _ _ _ _ _ _)
      | (with_reducible exact incunablelaw29_Sane.mono _)
      | (with_reducible exact incunableref05_Blacks.mono _ _ _ _)
      | (with_reducible exact incunableref29_Columns.mono _ _ _ _ _ _)
      | (with_reducible exact incunableref29_Ring.mono _ _ _ _ _ _)
      | (with_reducible exact scan_Columns.mono _ _ _ _ _ _)
      | (with_reducible exact scan_Ring.mono _ _ _ _ _ _)
      | (with_reducible exact LeO.refl _)
      | (with_reducible exact LeO.none _)
      | (with_reducible refine LeO.ite ?_ ?_)
      | (with_reducible refine LeO.bind ?_ (fun _ => ?_))
      | exact ih0 _ _ _ _ _ _ _ _ _ _ _ _ _
      | exact incunablelaw29_Sane.mono _
      | exact incunableref05_Blacks.mono _ _ _ _
      | exact incunableref29_Columns.mono _ _ _ _ _ _
      | exact incunableref29_Ring.mono _ _ _ _ _ _
      | exact scan_Columns.mono _ _ _ _ _ _
      | exact scan_Ring.mono _ _ _ _ _ _
      | exact LeO.none _
      | refine LeO.ite ?_ ?_
      | refine LeO.bind ?_ (fun _ => ?_)
def incunablelaw29_ScanRings.T12 : Bool × List (List Nat × List Nat) := (true, [([], []), ([0], [0]), ([1], [1]), ([2], [2]), ([2], [2]), ([3, 4, 2, 2], [2, 3, 4]), ([2, 5], [2, 5]), ([6, 5], [6]), ([7], [7]), ([8, 7, 7], [7, 8]), ([7], [7]), ([10, 9, 7], [7, 10]), ([9, 11, 7], [7, 9, 11]), ([7, 12], [7, 12]), ([13, 11], [13]), ([14], [14]), ([15, 14, 14], [14, 15]), ([14], [14]), ([17, 16, 14], [14, 17]), ([16, 18, 14], [14, 16, 18]), ([14, 19], [14, 19]), ([20, 18], [20]), ([21, 21], [21]), ([21, 22], [21, 22]), ([23, 22, 0, 1, 2, 3, 4, 5, 6, 7, 8, 9, 10, 11, 12, 13, 14, 15, 16, 17, 18, 19, 20, 21, 22, 23], [23])])
def incunablelaw29_ScanRings.B12 : List Nat := [0, 1, 3, 7, 7, 31, 63, 127, 255, 511, 255, 2047, 4095, 8191, 16383, 32767, 65535, 32767, 262143, 524287, 1048575, 2097151, 4194303, 8388607, 16777215]
theorem incunablelaw29_ScanRings.tab12 : rtab .any (opsOf Try.f6 12) = incunablelaw29_ScanRings.T12 := by kernel_rfl
theorem incunablelaw29_ScanRings.bits12 : waitsOk incunablelaw29_ScanRings.T12.2 incunablelaw29_ScanRings.B12 = true := by kernel_rfl
set_option maxHeartbeats 8000000 in
set_option maxRecDepth 100000 in
theorem incunablelaw29_ScanRings.calls (k : Nat) (a0_0 : Int) (a0_1 : Int) (A0_2 : Option Addr) (c0_2 : Nat) (l0_2 : List Int) (a1 : Int) (a2 : Int) (r : Bool) (w : World) (hr0_2 : Kd.C (Kd.int .u8) w A0_2 l0_2.length l0_2) (hc0_2 : l0_2.length ≤ c0_2) (h : incunablelaw29_ScanRings.f k a0_0 a0_1 l0_2 a1 a2 = some r) (hr_ : r = true) :
    Calls Try.prog 6 #[.agg #[.int .i64 a0_0, .int .i64 a0_1, .slice A0_2 l0_2.length c0_2], .int .i64 a1, .int .i64 a2] w fun e w' => e = .returned (.bool r) ∧ Below w.heap.size w w' := by
  have HR_ := Aside0.mk hr_
  clear hr_
  have hu31 := Try.underlying31
  have HR0_2 := Aside0.mk hr0_2
  have HC0_2 := Aside0.mk hc0_2
  clear hr0_2 hc0_2
  have HB := Aside0.mk (Below.refl w.heap.size w)
  have H : ((incunablelaw29_Large.f a0_0 a0_1 l0_2).bind fun t223 => (if t223 = true then ((incunablelaw29_Sane.f k).bind fun t224 => (some t224)) else ((scan_Ring.f k a0_0 a0_1 l0_2 a1 a2).bind fun bt225 => ((incunableref29_Ring.f k a0_0 a0_1 l0_2 a1 a2).bind fun bt232 => ((scan_Columns.f k a0_0 a0_1 l0_2 a1 a2).bind fun bt239 => ((incunableref29_Columns.f k a0_0 a0_1 l0_2 a1 a2).bind fun bt246 => (if bt225.2.2.2 = bt232.2.2.2 then (if bt239.2.2.2 = bt246.2.2.2 then ((incunableref05_Same.f bt225.1 bt225.2.1 bt225.2.2.1 bt232.1 bt232.2.1 bt232.2.2.1).bind fun t253 => (if t253 = true then ((incunableref05_Same.f bt239.1 bt239.2.1 bt239.2.2.1 bt246.1 bt246.2.1 bt246.2.2.1).bind fun t254 => (incunablelaw29_ScanRings.j0 k a1 a2 bt225.2.2.2 (!t254) a0_0 a0_1 l0_2 bt225.1 bt225.2.1 bt225.2.2.1 bt239.1 bt239.2.1 bt239.2.2.1)) else (incunablelaw29_ScanRings.j0 k a1 a2 bt225.2.2.2 true a0_0 a0_1 l0_2 bt225.1 bt225.2.1 bt225.2.2.1 bt239.1 bt239.2.1 bt239.2.2.1))) else (incunablelaw29_ScanRings.j0 k a1 a2 bt225.2.2.2 true a0_0 a0_1 l0_2 bt225.1 bt225.2.1 bt225.2.2.1 bt239.1 bt239.2.1 bt239.2.2.1)) else (incunablelaw29_ScanRings.j0 k a1 a2 bt225.2.2.2 true a0_0 a0_1 l0_2 bt225.1 bt225.2.1 bt225.2.2.1 bt239.1 bt239.2.1 bt239.2.2.1)))))))) = some r := h
  clear h
  replace H := Option.bind_eq_some_iff.mp H
  obtain ⟨t223, A40, H⟩ := H
  replace H : (if t223 = true then ((incunablelaw29_Sane.f k).bind fun t224 => (some t224)) else ((scan_Ring.f k a0_0 a0_1 l0_2 a1 a2).bind fun bt225 => ((incunableref29_Ring.f k a0_0 a0_1 l0_2 a1 a2).bind fun bt232 => ((scan_Columns.f k a0_0 a0_1 l0_2 a1 a2).bind fun bt239 => ((incunableref29_Columns.f k a0_0 a0_1 l0_2 a1 a2).bind fun bt246 => (if bt225.2.2.2 = bt232.2.2.2 then (if bt239.2.2.2 = bt246.2.2.2 then ((incunableref05_Same.f bt225.1 bt225.2.1 bt225.2.2.1 bt232.1 bt232.2.1 bt232.2.2.1).bind fun t253 => (if t253 = true then ((incunableref05_Same.f bt239.1 bt239.2.1 bt239.2.2.1 bt246.1 bt246.2.1 bt246.2.2.1).bind fun t254 => (incunablelaw29_ScanRings.j0 k a1 a2 bt225.2.2.2 (!t254) a0_0 a0_1 l0_2 bt225.1 bt225.2.1 bt225.2.2.1 bt239.1 bt239.2.1 bt239.2.2.1)) else (incunablelaw29_ScanRings.j0 k a1 a2 bt225.2.2.2 true a0_0 a0_1 l0_2 bt225.1 bt225.2.1 bt225.2.2.1 bt239.1 bt239.2.1 bt239.2.2.1))) else (incunablelaw29_ScanRings.j0 k a1 a2 bt225.2.2.2 true a0_0 a0_1 l0_2 bt225.1 bt225.2.1 bt225.2.2.1 bt239.1 bt239.2.1 bt239.2.2.1)) else (incunablelaw29_ScanRings.j0 k a1 a2 bt225.2.2.2 true a0_0 a0_1 l0_2 bt225.1 bt225.2.1 bt225.2.2.1 bt239.1 bt239.2.1 bt239.2.2.1))))))) = some r := H
  have A4 := Aside0.mk A40
  clear A40
  by_cases c5 : t223 = true
  · subst c5
    have H1 : ((incunablelaw29_Sane.f k).bind fun t224 => (some t224)) = some r := by rw [if_pos rfl] at H; exact H
    clear H
    have H := H1
    clear H1
    replace H := Option.bind_eq_some_iff.mp H
    obtain ⟨t224, A60, H⟩ := H
    replace H : (some t224) = some r := H
    have A6 := Aside0.mk A60
    clear A60
    obtain rfl := Option.some.inj H
    go_enter Try.func6, Try.ntmps6
    go_wp2_with (first | ((with_reducible refine gate_dst (N := 3) rfl ?_); refine box_event ?hg (N := 3) ?hd (cs := #[.int .i64 a0_0, .int .i64 a0_1, .slice A0_2 l0_2.length c0_2]) (t := 31) ?hr ?_; (case hd => rfl); (case hg => rfl); (case hr => first | (go_simp; done) | (go_simp; rfl)); intro gb222 hg w7 hbox hb; have n0_ := Aside0.mk (below_step (by repeat (first | (with_reducible first | exact HB.out | apply below_alloc | apply pw_below_drewN | apply below_drew1) | exact HB.out)) hb); have n1_ := Aside0.mk (hbox); have n2_ := Aside0.mk ((by rw [hg]; exact (below_size (by repeat (first | (with_reducible first | exact HB.out | apply below_alloc | apply pw_below_drewN | apply below_drew1) | exact HB.out))) : w.heap.size ≤ gb222)); have n3_ := Aside0.mk ((by rw [hg]; exact (below_size (by repeat (first | (with_reducible first | exact HB.out | apply below_alloc | apply pw_below_drewN | apply below_drew1) | exact HB.out))) : w.heap.size ≤ gb222)); clear HB; have HB := n0_; have BK222 := n1_; have GW222 := n2_; have GE222 := n3_; clear n0_ n1_ n2_ n3_; clear hb hbox hg; have hcz8_0 : w7.cell? ⟨gb222, 0, none⟩ = some (.int .i64 a0_0) := (blk_cell BK222.out 0).trans rfl; have hcz8_1 : w7.cell? ⟨gb222, 1, none⟩ = some (.int .i64 a0_1) := (blk_cell BK222.out 1).trans rfl; have hcz8_2 : w7.cell? ⟨gb222, 2, none⟩ = some (.slice A0_2 l0_2.length c0_2) := (blk_cell BK222.out 2).trans rfl; have hfz8_0 := blk_frozen BK222.out 0; have hfz8_1 := blk_frozen BK222.out 1; have hfz8_2 := blk_frozen BK222.out 2) | ((with_reducible refine gate_callee (f := 15) rfl ?_); refine goesL_ (some 17) rfl rfl Try.func15 (by kernel_rfl) rfl #[.agg #[.int .i64 a0_0, .int .i64 a0_1, .slice A0_2 l0_2.length c0_2]] rfl (by (try simp only [List.map_toArray, List.map_cons, List.map_nil]); first | done | rfl | (simp only [List.length_drop, List.length_take]; rfl)) ?_; (with_reducible refine (incunablelaw29_Large.calls a0_0 a0_1 _ _ l0_2 true _ ?side1 ?side2 A4.out).mono ?_); (case side1 => repeat (first | exact (Kd.C_below HR0_2.out HB.out) | (with_reducible refine Kd.C_alloc ?_ _) | (with_reducible refine Kd.C_drewN ?_ _) | (with_reducible refine Kd.C_drew ?_))); (case side2 => exact HC0_2.out); rintro e w9 ⟨rfl, hb⟩; refine ⟨_, rfl, ?_⟩; have n0_ := Aside0.mk (blk_below (bU BK222.out) hb); have n1_ := Aside0.mk (below_step (by repeat (first | (with_reducible first | exact HB.out | apply below_alloc | apply pw_below_drewN | apply below_drew1 | refine below_set ?_ GE222.out) | exact HB.out)) hb); clear BK222; clear HB; have BK222 := n0_; have HB := n1_; clear n0_ n1_; (try clear hb); (try clear hb2); (try clear hk); (try clear hi)) | ((with_reducible refine gate_callee (f := 14) rfl ?_); refine goesL_ (some 18) rfl rfl Try.func14 (by kernel_rfl) rfl #[] rfl (by (try simp only [List.map_toArray, List.map_cons, List.map_nil]); first | done | rfl | (simp only [List.length_drop, List.length_take]; rfl)) ?_; (with_reducible refine (incunablelaw29_Sane.calls k  t224 _ A6.out).mono ?_); rintro e w10 ⟨rfl, hb⟩; refine ⟨_, rfl, ?_⟩; have n0_ := Aside0.mk (blk_below (bU BK222.out) hb); have n1_ := Aside0.mk (below_step (by repeat (first | (with_reducible first | exact HB.out | apply below_alloc | apply pw_below_drewN | apply below_drew1 | refine below_set ?_ GE222.out) | exact HB.out)) hb); clear BK222; clear HB; have BK222 := n0_; have HB := n1_; clear n0_ n1_; (try clear hb); (try clear hb2); (try clear hk); (try clear hi)))
    go_ret
    exact ⟨by first | rfl | (simp [errW_none, errW_some] <;> rfl) | (simp [*, errW_none, errW_some] <;> rfl), by repeat (first | (with_reducible first | exact HB.out | apply below_alloc | apply pw_below_drewN | apply below_drew1 | refine below_set ?_ GE222.out) | exact HB.out)⟩
  · replace c5 := Bool.eq_false_iff.mpr c5
    subst c5
    have H1 : ((scan_Ring.f k a0_0 a0_1 l0_2 a1 a2).bind fun bt225 => ((incunableref29_Ring.f k a0_0 a0_1 l0_2 a1 a2).bind fun bt232 => ((scan_Columns.f k a0_0 a0_1 l0_2 a1 a2).bind fun bt239 => ((incunableref29_Columns.f k a0_0 a0_1 l0_2 a1 a2).bind fun bt246 => (if bt225.2.2.2 = bt232.2.2.2 then (if bt239.2.2.2 = bt246.2.2.2 then ((incunableref05_Same.f bt225.1 bt225.2.1 bt225.2.2.1 bt232.1 bt232.2.1 bt232.2.2.1).bind fun t253 => (if t253 = true then ((incunableref05_Same.f bt239.1 bt239.2.1 bt239.2.2.1 bt246.1 bt246.2.1 bt246.2.2.1).bind fun t254 => (incunablelaw29_ScanRings.j0 k a1 a2 bt225.2.2.2 (!t254) a0_0 a0_1 l0_2 bt225.1 bt225.2.1 bt225.2.2.1 bt239.1 bt239.2.1 bt239.2.2.1)) else (incunablelaw29_ScanRings.j0 k a1 a2 bt225.2.2.2 true a0_0 a0_1 l0_2 bt225.1 bt225.2.1 bt225.2.2.1 bt239.1 bt239.2.1 bt239.2.2.1))) else (incunablelaw29_ScanRings.j0 k a1 a2 bt225.2.2.2 true a0_0 a0_1 l0_2 bt225.1 bt225.2.1 bt225.2.2.1 bt239.1 bt239.2.1 bt239.2.2.1)) else (incunablelaw29_ScanRings.j0 k a1 a2 bt225.2.2.2 true a0_0 a0_1 l0_2 bt225.1 bt225.2.1 bt225.2.2.1 bt239.1 bt239.2.1 bt239.2.2.1)))))) = some r := by rw [if_neg (show ¬ (false = true) by decide)] at H; exact H
    clear H
    have H := H1
    clear H1
    replace H := Option.bind_eq_some_iff.mp H
    obtain ⟨⟨t225, t226, t227, t230⟩, A110, H⟩ := H
    replace H : ((incunableref29_Ring.f k a0_0 a0_1 l0_2 a1 a2).bind fun bt232 => ((scan_Columns.f k a0_0 a0_1 l0_2 a1 a2).bind fun bt239 => ((incunableref29_Columns.f k a0_0 a0_1 l0_2 a1 a2).bind fun bt246 => (if t230 = bt232.2.2.2 then (if bt239.2.2.2 = bt246.2.2.2 then ((incunableref05_Same.f t225 t226 t227 bt232.1 bt232.2.1 bt232.2.2.1).bind fun t253 => (if t253 = true then ((incunableref05_Same.f bt239.1 bt239.2.1 bt239.2.2.1 bt246.1 bt246.2.1 bt246.2.2.1).bind fun t254 => (incunablelaw29_ScanRings.j0 k a1 a2 t230 (!t254) a0_0 a0_1 l0_2 t225 t226 t227 bt239.1 bt239.2.1 bt239.2.2.1)) else (incunablelaw29_ScanRings.j0 k a1 a2 t230 true a0_0 a0_1 l0_2 t225 t226 t227 bt239.1 bt239.2.1 bt239.2.2.1))) else (incunablelaw29_ScanRings.j0 k a1 a2 t230 true a0_0 a0_1 l0_2 t225 t226 t227 bt239.1 bt239.2.1 bt239.2.2.1)) else (incunablelaw29_ScanRings.j0 k a1 a2 t230 true a0_0 a0_1 l0_2 t225 t226 t227 bt239.1 bt239.2.1 bt239.2.2.1))))) = some r := H
    have A11 := Aside0.mk A110
    clear A110
    replace H := Option.bind_eq_some_iff.mp H
    obtain ⟨⟨t232, t233, t234, t237⟩, A120, H⟩ := H
    replace H : ((scan_Columns.f k a0_0 a0_1 l0_2 a1 a2).bind fun bt239 => ((incunableref29_Columns.f k a0_0 a0_1 l0_2 a1 a2).bind fun bt246 => (if t230 = t237 then (if bt239.2.2.2 = bt246.2.2.2 then ((incunableref05_Same.f t225 t226 t227 t232 t233 t234).bind fun t253 => (if t253 = true then ((incunableref05_Same.f bt239.1 bt239.2.1 bt239.2.2.1 bt246.1 bt246.2.1 bt246.2.2.1).bind fun t254 => (incunablelaw29_ScanRings.j0 k a1 a2 t230 (!t254) a0_0 a0_1 l0_2 t225 t226 t227 bt239.1 bt239.2.1 bt239.2.2.1)) else (incunablelaw29_ScanRings.j0 k a1 a2 t230 true a0_0 a0_1 l0_2 t225 t226 t227 bt239.1 bt239.2.1 bt239.2.2.1))) else (incunablelaw29_ScanRings.j0 k a1 a2 t230 true a0_0 a0_1 l0_2 t225 t226 t227 bt239.1 bt239.2.1 bt239.2.2.1)) else (incunablelaw29_ScanRings.j0 k a1 a2 t230 true a0_0 a0_1 l0_2 t225 t226 t227 bt239.1 bt239.2.1 bt239.2.2.1)))) = some r := H
    have A12 := Aside0.mk A120
    clear A120
    replace H := Option.bind_eq_some_iff.mp H
    obtain ⟨⟨t239, t240, t241, t244⟩, A130, H⟩ := H
    replace H : ((incunableref29_Columns.f k a0_0 a0_1 l0_2 a1 a2).bind fun bt246 => (if t230 = t237 then (if t244 = bt246.2.2.2 then ((incunableref05_Same.f t225 t226 t227 t232 t233 t234).bind fun t253 => (if t253 = true then ((incunableref05_Same.f t239 t240 t241 bt246.1 bt246.2.1 bt246.2.2.1).bind fun t254 => (incunablelaw29_ScanRings.j0 k a1 a2 t230 (!t254) a0_0 a0_1 l0_2 t225 t226 t227 t239 t240 t241)) else (incunablelaw29_ScanRings.j0 k a1 a2 t230 true a0_0 a0_1 l0_2 t225 t226 t227 t239 t240 t241))) else (incunablelaw29_ScanRings.j0 k a1 a2 t230 true a0_0 a0_1 l0_2 t225 t226 t227 t239 t240 t241)) else (incunablelaw29_ScanRings.j0 k a1 a2 t230 true a0_0 a0_1 l0_2 t225 t226 t227 t239 t240 t241))) = some r := H
    have A13 := Aside0.mk A130
    clear A130
    replace H := Option.bind_eq_some_iff.mp H
    obtain ⟨⟨t246, t247, t248, t251⟩, A140, H⟩ := H
    replace H : (if t230 = t237 then (if t244 = t251 then ((incunableref05_Same.f t225 t226 t227 t232 t233 t234).bind fun t253 => (if t253 = true then ((incunableref05_Same.f t239 t240 t241 t246 t247 t248).bind fun t254 => (incunablelaw29_ScanRings.j0 k a1 a2 t230 (!t254) a0_0 a0_1 l0_2 t225 t226 t227 t239 t240 t241)) else (incunablelaw29_ScanRings.j0 k a1 a2 t230 true a0_0 a0_1 l0_2 t225 t226 t227 t239 t240 t241))) else (incunablelaw29_ScanRings.j0 k a1 a2 t230 true a0_0 a0_1 l0_2 t225 t226 t227 t239 t240 t241)) else (incunablelaw29_ScanRings.j0 k a1 a2 t230 true a0_0 a0_1 l0_2 t225 t226 t227 t239 t240 t241)) = some r := H
    have A14 := Aside0.mk A140
    clear A140
    have HC15 := Aside0.mk H
    clear H
    go_enter Try.func6, Try.ntmps6
    go_upto_region 7 with (first | ((with_reducible refine gate_dst (N := 3) rfl ?_); refine box_event ?hg (N := 3) ?hd (cs := #[.int .i64 a0_0, .int .i64 a0_1, .slice A0_2 l0_2.length c0_2]) (t := 31) ?hr ?_; (case hd => rfl); (case hg => rfl); (case hr => first | (go_simp; done) | (go_simp; rfl)); intro gb222 hg w16 hbox hb; have n0_ := Aside0.mk (below_step (by repeat (first | (with_reducible first | exact HB.out | apply below_alloc | apply pw_below_drewN | apply below_drew1) | exact HB.out)) hb); have n1_ := Aside0.mk (hbox); have n2_ := Aside0.mk ((by rw [hg]; exact (below_size (by repeat (first | (with_reducible first | exact HB.out | apply below_alloc | apply pw_below_drewN | apply below_drew1) | exact HB.out))) : w.heap.size ≤ gb222)); have n3_ := Aside0.mk ((by rw [hg]; exact (below_size (by repeat (first | (with_reducible first | exact HB.out | apply below_alloc | apply pw_below_drewN | apply below_drew1) | exact HB.out))) : w.heap.size ≤ gb222)); clear HB; have HB := n0_; have BK222 := n1_; have GW222 := n2_; have GE222 := n3_; clear n0_ n1_ n2_ n3_; clear hb hbox hg; have hcz17_0 : w16.cell? ⟨gb222, 0, none⟩ = some (.int .i64 a0_0) := (blk_cell BK222.out 0).trans rfl; have hcz17_1 : w16.cell? ⟨gb222, 1, none⟩ = some (.int .i64 a0_1) := (blk_cell BK222.out 1).trans rfl; have hcz17_2 : w16.cell? ⟨gb222, 2, none⟩ = some (.slice A0_2 l0_2.length c0_2) := (blk_cell BK222.out 2).trans rfl; have hfz17_0 := blk_frozen BK222.out 0; have hfz17_1 := blk_frozen BK222.out 1; have hfz17_2 := blk_frozen BK222.out 2) | ((with_reducible refine gate_callee (f := 15) rfl ?_); refine goesL_ (some 17) rfl rfl Try.func15 (by kernel_rfl) rfl #[.agg #[.int .i64 a0_0, .int .i64 a0_1, .slice A0_2 l0_2.length c0_2]] rfl (by (try simp only [List.map_toArray, List.map_cons, List.map_nil]); first | done | rfl | (simp only [List.length_drop, List.length_take]; rfl)) ?_; (with_reducible refine (incunablelaw29_Large.calls a0_0 a0_1 _ _ l0_2 false _ ?side1 ?side2 A4.out).mono ?_); (case side1 => repeat (first | exact (Kd.C_below HR0_2.out HB.out) | (with_reducible refine Kd.C_alloc ?_ _) | (with_reducible refine Kd.C_drewN ?_ _) | (with_reducible refine Kd.C_drew ?_))); (case side2 => exact HC0_2.out); rintro e w18 ⟨rfl, hb⟩; refine ⟨_, rfl, ?_⟩; have n0_ := Aside0.mk (blk_below (bU BK222.out) hb); have n1_ := Aside0.mk (below_step (by repeat (first | (with_reducible first | exact HB.out | apply below_alloc | apply pw_below_drewN | apply below_drew1 | refine below_set ?_ GE222.out) | exact HB.out)) hb); clear BK222; clear HB; have BK222 := n0_; have HB := n1_; clear n0_ n1_; (try clear hb); (try clear hb2); (try clear hk); (try clear hi); have hcz19_0 : w18.cell? ⟨gb222, 0, none⟩ = some (.int .i64 a0_0) := (blk_cell BK222.out 0).trans rfl; have hcz19_1 : w18.cell? ⟨gb222, 1, none⟩ = some (.int .i64 a0_1) := (blk_cell BK222.out 1).trans rfl; have hcz19_2 : w18.cell? ⟨gb222, 2, none⟩ = some (.slice A0_2 l0_2.length c0_2) := (blk_cell BK222.out 2).trans rfl; have hfz19_0 := blk_frozen BK222.out 0; have hfz19_1 := blk_frozen BK222.out 1; have hfz19_2 := blk_frozen BK222.out 2) | ((with_reducible refine gate_callee (f := 21) rfl ?_); refine goesL_ (some 23) rfl rfl Try.func21 (by kernel_rfl) rfl #[.agg #[.int .i64 a0_0, .int .i64 a0_1, .slice A0_2 l0_2.length c0_2], .int .i64 a1, .int .i64 a2] rfl (by (try simp only [List.map_toArray, List.map_cons, List.map_nil]); first | done | rfl | (simp only [List.length_drop, List.length_take]; rfl)) ?_; (with_reducible refine (scan_Ring.calls k a0_0 a0_1 _ _ l0_2 a1 a2 t225 t226 t227 t230 _ ?side1 ?side2 A11.out).mono ?_); (case side1 => repeat (first | exact (Kd.C_below HR0_2.out HB.out) | (with_reducible refine Kd.C_alloc ?_ _) | (with_reducible refine Kd.C_drewN ?_ _) | (with_reducible refine Kd.C_drew ?_))); (case side2 => exact HC0_2.out); rintro e w20 ⟨v228, rfl, ho0, hb⟩; refine ⟨_, rfl, ?_⟩; have n0_ := Aside0.mk (Kd.R_lower ho0 (below_size (by repeat (first | (with_reducible first | exact HB.out | apply below_alloc | apply pw_below_drewN | apply below_drew1 | refine below_set ?_ GE222.out) | exact HB.out)))); have n1_ := Aside0.mk (blk_below (bU BK222.out) hb); have n2_ := Aside0.mk (below_step (by repeat (first | (with_reducible first | exact HB.out | apply below_alloc | apply pw_below_drewN | apply below_drew1 | refine below_set ?_ GE222.out) | exact HB.out)) hb); clear BK222; clear HB; have HO229 := n0_; have BK222 := n1_; have HB := n2_; clear n0_ n1_ n2_; (try clear hb); (try clear hb2); (try clear hk); (try clear hi); (try clear ho0)) | ((with_reducible refine gate_dst (N := 7) rfl ?_); refine box_event ?hg (N := 7) ?hd (cs := #[.int .i64 0, .int .i64 0, .slice none 0 0]) (t := 31) ?hr ?_; (case hd => rfl); (case hg => rfl); (case hr => first | (go_simp; done) | (go_simp; rfl)); intro gb231 hg w21 hbox hb; have n0_ := Aside0.mk (Kd.R_below (rU HO229.out) hb); have n1_ := Aside0.mk (blk_below (bU BK222.out) hb); have n2_ := Aside0.mk (below_step (by repeat (first | (with_reducible first | exact HB.out | apply below_alloc | apply pw_below_drewN | apply below_drew1 | refine below_set ?_ GE222.out) | exact HB.out)) hb); have n3_ := Aside0.mk (hbox); have n4_ := Aside0.mk ((by rw [hg]; exact (below_size (by repeat (first | (with_reducible first | exact HB.out | apply below_alloc | apply pw_below_drewN | apply below_drew1 | refine below_set ?_ GE222.out) | exact HB.out))) : w.heap.size ≤ gb231)); have n5_ := Aside0.mk ((by rw [hg]; exact (below_size (by repeat (first | (with_reducible first | exact HB.out | apply below_alloc | apply pw_below_drewN | apply below_drew1 | refine below_set ?_ GE222.out) | exact HB.out))) : w.heap.size ≤ gb231)); have n6_ := Aside0.mk ((by rw [hg]; exact Nat.ne_of_lt (blk_lt (bU BK222.out)) : gb222 ≠ gb231)); have n7_ := Aside0.mk ((by rw [hg]; exact Nat.ne_of_gt (blk_lt (bU BK222.out)) : gb231 ≠ gb222)); clear HO229; clear BK222; clear HB; have HO229 := n0_; have BK222 := n1_; have HB := n2_; have BK231 := n3_; have GW231 := n4_; have GE231 := n5_; have NB222_231 := n6_; have NB231_222 := n7_; clear n0_ n1_ n2_ n3_ n4_ n5_ n6_ n7_; clear hb hbox hg; have hnb22 := NB231_222.out; have hnc22 := NB222_231.out; have hcz23_0 : w21.cell? ⟨gb231, 0, none⟩ = some (.int .i64 0) := (blk_cell BK231.out 0).trans rfl; have hcz23_1 : w21.cell? ⟨gb231, 1, none⟩ = some (.int .i64 0) := (blk_cell BK231.out 1).trans rfl; have hcz23_2 : w21.cell? ⟨gb231, 2, none⟩ = some (.slice none 0 0) := (blk_cell BK231.out 2).trans rfl; have hfz23_0 := blk_frozen BK231.out 0; have hfz23_1 := blk_frozen BK231.out 1; have hfz23_2 := blk_frozen BK231.out 2; obtain ⟨Ao24, co24, eo24⟩ := Kd.R_slice HO229.out; subst eo24; have hcz25_0 : w21.cell? ⟨gb222, 0, none⟩ = some (.int .i64 a0_0) := (blk_cell BK222.out 0).trans rfl; have hcz25_1 : w21.cell? ⟨gb222, 1, none⟩ = some (.int .i64 a0_1) := (blk_cell BK222.out 1).trans rfl; have hcz25_2 : w21.cell? ⟨gb222, 2, none⟩ = some (.slice A0_2 l0_2.length c0_2) := (blk_cell BK222.out 2).trans rfl; have hfz25_0 := blk_frozen BK222.out 0; have hfz25_1 := blk_frozen BK222.out 1; have hfz25_2 := blk_frozen BK222.out 2) | ((with_reducible refine gate_callee (f := 22) rfl ?_); refine goesL_ (some 30) rfl rfl Try.func22 (by kernel_rfl) rfl #[.agg #[.int .i64 a0_0, .int .i64 a0_1, .slice A0_2 l0_2.length c0_2], .int .i64 a1, .int .i64 a2] rfl (by (try simp only [List.map_toArray, List.map_cons, List.map_nil]); first | done | rfl | (simp only [List.length_drop, List.length_take]; rfl)) ?_; (with_reducible refine (incunableref29_Ring.calls k a0_0 a0_1 _ _ l0_2 a1 a2 t232 t233 t234 t237 _ ?side1 ?side2 A12.out).mono ?_); (case side1 => exact Kd.C_below HR0_2.out (by repeat (first | (with_reducible first | exact HB.out | apply below_alloc | apply pw_below_drewN | apply below_drew1 | refine below_set ?_ GE222.out | refine below_set ?_ GE231.out) | exact HB.out))); (case side2 => exact HC0_2.out); rintro e w26 ⟨v235, rfl, ho0, hb⟩; refine ⟨_, rfl, ?_⟩; have n0_ := Aside0.mk (Kd.R_elder' (by (with_reducible repeat (first | apply Kd.R_alloc | apply Kd.R_drewN | apply Kd.R_drew)); exact (Kd.R_mono (Kd.R_far (p := ⟨gb231, 2, none⟩) (Kd.R_far (p := ⟨gb231, 1, none⟩) (Kd.R_far (p := ⟨gb231, 0, none⟩) (Kd.R_types HO229.out BK231.out (by decide)) (fun _ hk => hk.2) (.int .i64 t225)) (fun _ hk => hk.2) (.int .i64 t226)) (fun _ hk => hk.2) (.slice Ao24 t227.length co24)) (fun _ h_ => h_.1))) (Kd.R_base ho0) hb); have n1_ := Aside0.mk (Kd.R_lower (Kd.R_new' ho0 (Kd.R_lt (by (with_reducible repeat (first | apply Kd.R_alloc | apply Kd.R_drewN | apply Kd.R_drew)); exact (Kd.R_mono (Kd.R_far (p := ⟨gb231, 2, none⟩) (Kd.R_far (p := ⟨gb231, 1, none⟩) (Kd.R_far (p := ⟨gb231, 0, none⟩) (Kd.R_types HO229.out BK231.out (by decide)) (fun _ hk => hk.2) (.int .i64 t225)) (fun _ hk => hk.2) (.int .i64 t226)) (fun _ hk => hk.2) (.slice Ao24 t227.length co24)) (fun _ h_ => h_.1))))) (below_size (by repeat (first | (with_reducible first | exact HB.out | apply below_alloc | apply pw_below_drewN | apply below_drew1 | refine below_set ?_ GE222.out | refine below_set ?_ GE231.out) | exact HB.out)))); have n2_ := Aside0.mk (blk_below (g := gb222) (o := .cells #[.int .i64 a0_0, .int .i64 a0_1, .slice A0_2 l0_2.length c0_2] 31 (0, 0)) (by (with_reducible repeat (first | refine blk_drewN ?_ _ | refine blk_drew ?_ | refine blk_alloc ?_ _)); refine blk_far ?_ NB222_231.out _; (with_reducible repeat (first | refine blk_drewN ?_ _ | refine blk_drew ?_ | refine blk_alloc ?_ _)); refine blk_far ?_ NB222_231.out _; (with_reducible repeat (first | refine blk_drewN ?_ _ | refine blk_drew ?_ | refine blk_alloc ?_ _)); refine blk_far ?_ NB222_231.out _; (with_reducible repeat (first | refine blk_drewN ?_ _ | refine blk_drew ?_ | refine blk_alloc ?_ _)); exact BK222.out) hb); have n3_ := Aside0.mk (blk_below (g := gb231) (o := .cells #[.int .i64 t225, .int .i64 t226, .slice Ao24 t227.length co24] 31 (0, 0)) (by (with_reducible repeat (first | refine blk_drewN ?_ _ | refine blk_drew ?_ | refine blk_alloc ?_ _)); refine blk_put (cs := #[.int .i64 t225, .int .i64 t226, .slice none 0 0]) ?_ 2 _ rfl; (with_reducible repeat (first | refine blk_drewN ?_ _ | refine blk_drew ?_ | refine blk_alloc ?_ _)); refine blk_put (cs := #[.int .i64 t225, .int .i64 0, .slice none 0 0]) ?_ 1 _ rfl; (with_reducible repeat (first | refine blk_drewN ?_ _ | refine blk_drew ?_ | refine blk_alloc ?_ _)); refine blk_put (cs := #[.int .i64 0, .int .i64 0, .slice none 0 0]) ?_ 0 _ rfl; (with_reducible repeat (first | refine blk_drewN ?_ _ | refine blk_drew ?_ | refine blk_alloc ?_ _)); exact BK231.out) hb); have n4_ := Aside0.mk (below_step (by repeat (first | (with_reducible first | exact HB.out | apply below_alloc | apply pw_below_drewN | apply below_drew1 | refine below_set ?_ GE222.out | refine below_set ?_ GE231.out) | exact HB.out)) hb); clear HO229; clear BK222; clear BK231; clear HB; have HO229 := n0_; have HO236 := n1_; have BK222 := n2_; have BK231 := n3_; have HB := n4_; clear n0_ n1_ n2_ n3_ n4_; (try clear hb); (try clear hb2); (try clear hk); (try clear hi); (try clear ho0)) | ((with_reducible refine gate_dst (N := 9) rfl ?_); refine box_event ?hg (N := 9) ?hd (cs := #[.int .i64 0, .int .i64 0, .slice none 0 0]) (t := 31) ?hr ?_; (case hd => rfl); (case hg => rfl); (case hr => first | (go_simp; done) | (go_simp; rfl)); intro gb238 hg w27 hbox hb; have n0_ := Aside0.mk (Kd.R_below (rU HO229.out) hb); have n1_ := Aside0.mk (Kd.R_below (rU HO236.out) hb); have n2_ := Aside0.mk (blk_below (bU BK222.out) hb); have n3_ := Aside0.mk (blk_below (bU BK231.out) hb); have n4_ := Aside0.mk (below_step (by repeat (first | (with_reducible first | exact HB.out | apply below_alloc | apply pw_below_drewN | apply below_drew1 | refine below_set ?_ GE222.out | refine below_set ?_ GE231.out) | exact HB.out)) hb); have n5_ := Aside0.mk (hbox); have n6_ := Aside0.mk ((by rw [hg]; exact (below_size (by repeat (first | (with_reducible first | exact HB.out | apply below_alloc | apply pw_below_drewN | apply below_drew1 | refine below_set ?_ GE222.out | refine below_set ?_ GE231.out) | exact HB.out))) : w.heap.size ≤ gb238)); have n7_ := Aside0.mk ((by rw [hg]; exact (below_size (by repeat (first | (with_reducible first | exact HB.out | apply below_alloc | apply pw_below_drewN | apply below_drew1 | refine below_set ?_ GE222.out | refine below_set ?_ GE231.out) | exact HB.out))) : w.heap.size ≤ gb238)); have n8_ := Aside0.mk ((by rw [hg]; exact Nat.ne_of_lt (blk_lt (bU BK222.out)) : gb222 ≠ gb238)); have n9_ := Aside0.mk ((by rw [hg]; exact Nat.ne_of_gt (blk_lt (bU BK222.out)) : gb238 ≠ gb222)); have n10_ := Aside0.mk ((by rw [hg]; exact Nat.ne_of_lt (blk_lt (bU BK231.out)) : gb231 ≠ gb238)); have n11_ := Aside0.mk ((by rw [hg]; exact Nat.ne_of_gt (blk_lt (bU BK231.out)) : gb238 ≠ gb231)); clear HO229; clear HO236; clear BK222; clear BK231; clear HB; have HO229 := n0_; have HO236 := n1_; have BK222 := n2_; have BK231 := n3_; have HB := n4_; have BK238 := n5_; have GW238 := n6_; have GE238 := n7_; have NB222_238 := n8_; have NB238_222 := n9_; have NB231_238 := n10_; have NB238_231 := n11_; clear n0_ n1_ n2_ n3_ n4_ n5_ n6_ n7_ n8_ n9_ n10_ n11_; clear hb hbox hg; have hnb28 := NB238_222.out; have hnc28 := NB222_238.out; have hnb29 := NB238_231.out; have hnc29 := NB231_238.out; have hcz30_0 : w27.cell? ⟨gb238, 0, none⟩ = some (.int .i64 0) := (blk_cell BK238.out 0).trans rfl; have hcz30_1 : w27.cell? ⟨gb238, 1, none⟩ = some (.int .i64 0) := (blk_cell BK238.out 1).trans rfl; have hcz30_2 : w27.cell? ⟨gb238, 2, none⟩ = some (.slice none 0 0) := (blk_cell BK238.out 2).trans rfl; have hfz30_0 := blk_frozen BK238.out 0; have hfz30_1 := blk_frozen BK238.out 1; have hfz30_2 := blk_frozen BK238.out 2; obtain ⟨Ao31, co31, eo31⟩ := Kd.R_slice HO236.out; subst eo31; have hcz32_0 : w27.cell? ⟨gb222, 0, none⟩ = some (.int .i64 a0_0) := (blk_cell BK222.out 0).trans rfl; have hcz32_1 : w27.cell? ⟨gb222, 1, none⟩ = some (.int .i64 a0_1) := (blk_cell BK222.out 1).trans rfl; have hcz32_2 : w27.cell? ⟨gb222, 2, none⟩ = some (.slice A0_2 l0_2.length c0_2) := (blk_cell BK222.out 2).trans rfl; have hfz32_0 := blk_frozen BK222.out 0; have hfz32_1 := blk_frozen BK222.out 1; have hfz32_2 := blk_frozen BK222.out 2) | ((with_reducible refine gate_callee (f := 23) rfl ?_); refine goesL_ (some 37) rfl rfl Try.func23 (by kernel_rfl) rfl #[.agg #[.int .i64 a0_0, .int .i64 a0_1, .slice A0_2 l0_2.length c0_2], .int .i64 a1, .int .i64 a2] rfl (by (try simp only [List.map_toArray, List.map_cons, List.map_nil]); first | done | rfl | (simp only [List.length_drop, List.length_take]; rfl)) ?_; (with_reducible refine (scan_Columns.calls k a0_0 a0_1 _ _ l0_2 a1 a2 t239 t240 t241 t244 _ ?side1 ?side2 A13.out).mono ?_); (case side1 => exact Kd.C_below HR0_2.out (by repeat (first | (with_reducible first | exact HB.out | apply below_alloc | apply pw_below_drewN | apply below_drew1 | refine below_set ?_ GE222.out | refine below_set ?_ GE231.out | refine below_set ?_ GE238.out) | exact HB.out))); (case side2 => exact HC0_2.out); rintro e w33 ⟨v242, rfl, ho0, hb⟩; refine ⟨_, rfl, ?_⟩; have n0_ := Aside0.mk (Kd.R_elder' (by (with_reducible repeat (first | apply Kd.R_alloc | apply Kd.R_drewN | apply Kd.R_drew)); exact (Kd.R_mono (Kd.R_far (p := ⟨gb238, 2, none⟩) (Kd.R_far (p := ⟨gb238, 1, none⟩) (Kd.R_far (p := ⟨gb238, 0, none⟩) (Kd.R_types HO229.out BK238.out (by decide)) (fun _ hk => hk.2) (.int .i64 t232)) (fun _ hk => hk.2) (.int .i64 t233)) (fun _ hk => hk.2) (.slice Ao31 t234.length co31)) (fun _ h_ => h_.1))) (Kd.R_base ho0) hb); have n1_ := Aside0.mk (Kd.R_elder' (by (with_reducible repeat (first | apply Kd.R_alloc | apply Kd.R_drewN | apply Kd.R_drew)); exact (Kd.R_mono (Kd.R_far (p := ⟨gb238, 2, none⟩) (Kd.R_far (p := ⟨gb238, 1, none⟩) (Kd.R_far (p := ⟨gb238, 0, none⟩) (Kd.R_types HO236.out BK238.out (by decide)) (fun _ hk => hk.2) (.int .i64 t232)) (fun _ hk => hk.2) (.int .i64 t233)) (fun _ hk => hk.2) (.slice Ao31 t234.length co31)) (fun _ h_ => h_.1))) (Kd.R_base ho0) hb); have n2_ := Aside0.mk (Kd.R_lower (Kd.R_new' (Kd.R_new' ho0 (Kd.R_lt (by (with_reducible repeat (first | apply Kd.R_alloc | apply Kd.R_drewN | apply Kd.R_drew)); exact (Kd.R_mono (Kd.R_far (p := ⟨gb238, 2, none⟩) (Kd.R_far (p := ⟨gb238, 1, none⟩) (Kd.R_far (p := ⟨gb238, 0, none⟩) (Kd.R_types HO229.out BK238.out (by decide)) (fun _ hk => hk.2) (.int .i64 t232)) (fun _ hk => hk.2) (.int .i64 t233)) (fun _ hk => hk.2) (.slice Ao31 t234.length co31)) (fun _ h_ => h_.1))))) (Kd.R_lt (by (with_reducible repeat (first | apply Kd.R_alloc | apply Kd.R_drewN | apply Kd.R_drew)); exact (Kd.R_mono (Kd.R_far (p := ⟨gb238, 2, none⟩) (Kd.R_far (p := ⟨gb238, 1, none⟩) (Kd.R_far (p := ⟨gb238, 0, none⟩) (Kd.R_types HO236.out BK238.out (by decide)) (fun _ hk => hk.2) (.int .i64 t232)) (fun _ hk => hk.2) (.int .i64 t233)) (fun _ hk => hk.2) (.slice Ao31 t234.length co31)) (fun _ h_ => h_.1))))) (below_size (by repeat (first | (with_reducible first | exact HB.out | apply below_alloc | apply pw_below_drewN | apply below_drew1 | refine below_set ?_ GE222.out | refine below_set ?_ GE231.out | refine below_set ?_ GE238.out) | exact HB.out)))); have n3_ := Aside0.mk (blk_below (g := gb222) (o := .cells #[.int .i64 a0_0, .int .i64 a0_1, .slice A0_2 l0_2.length c0_2] 31 (0, 0)) (by (with_reducible repeat (first | refine blk_drewN ?_ _ | refine blk_drew ?_ | refine blk_alloc ?_ _)); refine blk_far ?_ NB222_238.out _; (with_reducible repeat (first | refine blk_drewN ?_ _ | refine blk_drew ?_ | refine blk_alloc ?_ _)); refine blk_far ?_ NB222_238.out _; (with_reducible repeat (first | refine blk_drewN ?_ _ | refine blk_drew ?_ | refine blk_alloc ?_ _)); refine blk_far ?_ NB222_238.out _; (with_reducible repeat (first | refine blk_drewN ?_ _ | refine blk_drew ?_ | refine blk_alloc ?_ _)); exact BK222.out) hb); have n4_ := Aside0.mk (blk_below (g := gb231) (o := .cells #[.int .i64 t225, .int .i64 t226, .slice Ao24 t227.length co24] 31 (0, 0)) (by (with_reducible repeat (first | refine blk_drewN ?_ _ | refine blk_drew ?_ | refine blk_alloc ?_ _)); refine blk_far ?_ NB231_238.out _; (with_reducible repeat (first | refine blk_drewN ?_ _ | refine blk_drew ?_ | refine blk_alloc ?_ _)); refine blk_far ?_ NB231_238.out _; (with_reducible repeat (first | refine blk_drewN ?_ _ | refine blk_drew ?_ | refine blk_alloc ?_ _)); refine blk_far ?_ NB231_238.out _; (with_reducible repeat (first | refine blk_drewN ?_ _ | refine blk_drew ?_ | refine blk_alloc ?_ _)); exact BK231.out) hb); have n5_ := Aside0.mk (blk_below (g := gb238) (o := .cells #[.int .i64 t232, .int .i64 t233, .slice Ao31 t234.length co31] 31 (0, 0)) (by (with_reducible repeat (first | refine blk_drewN ?_ _ | refine blk_drew ?_ | refine blk_alloc ?_ _)); refine blk_put (cs := #[.int .i64 t232, .int .i64 t233, .slice none 0 0]) ?_ 2 _ rfl; (with_reducible repeat (first | refine blk_drewN ?_ _ | refine blk_drew ?_ | refine blk_alloc ?_ _)); refine blk_put (cs := #[.int .i64 t232, .int .i64 0, .slice none 0 0]) ?_ 1 _ rfl; (with_reducible repeat (first | refine blk_drewN ?_ _ | refine blk_drew ?_ | refine blk_alloc ?_ _)); refine blk_put (cs := #[.int .i64 0, .int .i64 0, .slice none 0 0]) ?_ 0 _ rfl; (with_reducible repeat (first | refine blk_drewN ?_ _ | refine blk_drew ?_ | refine blk_alloc ?_ _)); exact BK238.out) hb); have n6_ := Aside0.mk (below_step (by repeat (first | (with_reducible first | exact HB.out | apply below_alloc | apply pw_below_drewN | apply below_drew1 | refine below_set ?_ GE222.out | refine below_set ?_ GE231.out | refine below_set ?_ GE238.out) | exact HB.out)) hb); clear HO229; clear HO236; clear BK222; clear BK231; clear BK238; clear HB; have HO229 := n0_; have HO236 := n1_; have HO243 := n2_; have BK222 := n3_; have BK231 := n4_; have BK238 := n5_; have HB := n6_; clear n0_ n1_ n2_ n3_ n4_ n5_ n6_; (try clear hb); (try clear hb2); (try clear hk); (try clear hi); (try clear ho0)) | ((with_reducible refine gate_dst (N := 11) rfl ?_); refine box_event ?hg (N := 11) ?hd (cs := #[.int .i64 0, .int .i64 0, .slice none 0 0]) (t := 31) ?hr ?_; (case hd => rfl); (case hg => rfl); (case hr => first | (go_simp; done) | (go_simp; rfl)); intro gb245 hg w34 hbox hb; have n0_ := Aside0.mk (Kd.R_below (rU HO229.out) hb); have n1_ := Aside0.mk (Kd.R_below (rU HO236.out) hb); have n2_ := Aside0.mk (Kd.R_below (rU HO243.out) hb); have n3_ := Aside0.mk (blk_below (bU BK222.out) hb); have n4_ := Aside0.mk (blk_below (bU BK231.out) hb); have n5_ := Aside0.mk (blk_below (bU BK238.out) hb); have n6_ := Aside0.mk (below_step (by repeat (first | (with_reducible first | exact HB.out | apply below_alloc | apply pw_below_drewN | apply below_drew1 | refine below_set ?_ GE222.out | refine below_set ?_ GE231.out | refine below_set ?_ GE238.out) | exact HB.out)) hb); have n7_ := Aside0.mk (hbox); have n8_ := Aside0.mk ((by rw [hg]; exact (below_size (by repeat (first | (with_reducible first | exact HB.out | apply below_alloc | apply pw_below_drewN | apply below_drew1 | refine below_set ?_ GE222.out | refine below_set ?_ GE231.out | refine below_set ?_ GE238.out) | exact HB.out))) : w.heap.size ≤ gb245)); have n9_ := Aside0.mk ((by rw [hg]; exact (below_size (by repeat (first | (with_reducible first | exact HB.out | apply below_alloc | apply pw_below_drewN | apply below_drew1 | refine below_set ?_ GE222.out | refine below_set ?_ GE231.out | refine below_set ?_ GE238.out) | exact HB.out))) : w.heap.size ≤ gb245)); have n10_ := Aside0.mk ((by rw [hg]; exact Nat.ne_of_lt (blk_lt (bU BK222.out)) : gb222 ≠ gb245)); have n11_ := Aside0.mk ((by rw [hg]; exact Nat.ne_of_gt (blk_lt (bU BK222.out)) : gb245 ≠ gb222)); have n12_ := Aside0.mk ((by rw [hg]; exact Nat.ne_of_lt (blk_lt (bU BK231.out)) : gb231 ≠ gb245)); have n13_ := Aside0.mk ((by rw [hg]; exact Nat.ne_of_gt (blk_lt (bU BK231.out)) : gb245 ≠ gb231)); have n14_ := Aside0.mk ((by rw [hg]; exact Nat.ne_of_lt (blk_lt (bU BK238.out)) : gb238 ≠ gb245)); have n15_ := Aside0.mk ((by rw [hg]; exact Nat.ne_of_gt (blk_lt (bU BK238.out)) : gb245 ≠ gb238)); clear HO229; clear HO236; clear HO243; clear BK222; clear BK231; clear BK238; clear HB; have HO229 := n0_; have HO236 := n1_; have HO243 := n2_; have BK222 := n3_; have BK231 := n4_; have BK238 := n5_; have HB := n6_; have BK245 := n7_; have GW245 := n8_; have GE245 := n9_; have NB222_245 := n10_; have NB245_222 := n11_; have NB231_245 := n12_; have NB245_231 := n13_; have NB238_245 := n14_; have NB245_238 := n15_; clear n0_ n1_ n2_ n3_ n4_ n5_ n6_ n7_ n8_ n9_ n10_ n11_ n12_ n13_ n14_ n15_; clear hb hbox hg; have hnb35 := NB245_222.out; have hnc35 := NB222_245.out; have hnb36 := NB245_231.out; have hnc36 := NB231_245.out; have hnb37 := NB245_238.out; have hnc37 := NB238_245.out; have hcz38_0 : w34.cell? ⟨gb245, 0, none⟩ = some (.int .i64 0) := (blk_cell BK245.out 0).trans rfl; have hcz38_1 : w34.cell? ⟨gb245, 1, none⟩ = some (.int .i64 0) := (blk_cell BK245.out 1).trans rfl; have hcz38_2 : w34.cell? ⟨gb245, 2, none⟩ = some (.slice none 0 0) := (blk_cell BK245.out 2).trans rfl; have hfz38_0 := blk_frozen BK245.out 0; have hfz38_1 := blk_frozen BK245.out 1; have hfz38_2 := blk_frozen BK245.out 2; obtain ⟨Ao39, co39, eo39⟩ := Kd.R_slice HO243.out; subst eo39; have hcz40_0 : w34.cell? ⟨gb222, 0, none⟩ = some (.int .i64 a0_0) := (blk_cell BK222.out 0).trans rfl; have hcz40_1 : w34.cell? ⟨gb222, 1, none⟩ = some (.int .i64 a0_1) := (blk_cell BK222.out 1).trans rfl; have hcz40_2 : w34.cell? ⟨gb222, 2, none⟩ = some (.slice A0_2 l0_2.length c0_2) := (blk_cell BK222.out 2).trans rfl; have hfz40_0 := blk_frozen BK222.out 0; have hfz40_1 := blk_frozen BK222.out 1; have hfz40_2 := blk_frozen BK222.out 2) | ((with_reducible refine gate_callee (f := 24) rfl ?_); refine goesL_ (some 44) rfl rfl Try.func24 (by kernel_rfl) rfl #[.agg #[.int .i64 a0_0, .int .i64 a0_1, .slice A0_2 l0_2.length c0_2], .int .i64 a1, .int .i64 a2] rfl (by (try simp only [List.map_toArray, List.map_cons, List.map_nil]); first | done | rfl | (simp only [List.length_drop, List.length_take]; rfl)) ?_; (with_reducible refine (incunableref29_Columns.calls k a0_0 a0_1 _ _ l0_2 a1 a2 t246 t247 t248 t251 _ ?side1 ?side2 A14.out).mono ?_); (case side1 => exact Kd.C_below HR0_2.out (by repeat (first | (with_reducible first | exact HB.out | apply below_alloc | apply pw_below_drewN | apply below_drew1 | refine below_set ?_ GE222.out | refine below_set ?_ GE231.out | refine below_set ?_ GE238.out | refine below_set ?_ GE245.out) | exact HB.out))); (case side2 => exact HC0_2.out); rintro e w41 ⟨v249, rfl, ho0, hb⟩; refine ⟨_, rfl, ?_⟩; have n0_ := Aside0.mk (Kd.R_elder' (by (with_reducible repeat (first | apply Kd.R_alloc | apply Kd.R_drewN | apply Kd.R_drew)); exact (Kd.R_mono (Kd.R_far (p := ⟨gb245, 2, none⟩) (Kd.R_far (p := ⟨gb245, 1, none⟩) (Kd.R_far (p := ⟨gb245, 0, none⟩) (Kd.R_types HO229.out BK245.out (by decide)) (fun _ hk => hk.2) (.int .i64 t239)) (fun _ hk => hk.2) (.int .i64 t240)) (fun _ hk => hk.2) (.slice Ao39 t241.length co39)) (fun _ h_ => h_.1))) (Kd.R_base ho0) hb); have n1_ := Aside0.mk (Kd.R_elder' (by (with_reducible repeat (first | apply Kd.R_alloc | apply Kd.R_drewN | apply Kd.R_drew)); exact (Kd.R_mono (Kd.R_far (p := ⟨gb245, 2, none⟩) (Kd.R_far (p := ⟨gb245, 1, none⟩) (Kd.R_far (p := ⟨gb245, 0, none⟩) (Kd.R_types HO236.out BK245.out (by decide)) (fun _ hk => hk.2) (.int .i64 t239)) (fun _ hk => hk.2) (.int .i64 t240)) (fun _ hk => hk.2) (.slice Ao39 t241.length co39)) (fun _ h_ => h_.1))) (Kd.R_base ho0) hb); have n2_ := Aside0.mk (Kd.R_elder' (by (with_reducible repeat (first | apply Kd.R_alloc | apply Kd.R_drewN | apply Kd.R_drew)); exact (Kd.R_mono (Kd.R_far (p := ⟨gb245, 2, none⟩) (Kd.R_far (p := ⟨gb245, 1, none⟩) (Kd.R_far (p := ⟨gb245, 0, none⟩) (Kd.R_types HO243.out BK245.out (by decide)) (fun _ hk => hk.2) (.int .i64 t239)) (fun _ hk => hk.2) (.int .i64 t240)) (fun _ hk => hk.2) (.slice Ao39 t241.length co39)) (fun _ h_ => h_.1))) (Kd.R_base ho0) hb); have n3_ := Aside0.mk (Kd.R_lower (Kd.R_new' (Kd.R_new' (Kd.R_new' ho0 (Kd.R_lt (by (with_reducible repeat (first | apply Kd.R_alloc | apply Kd.R_drewN | apply Kd.R_drew)); exact (Kd.R_mono (Kd.R_far (p := ⟨gb245, 2, none⟩) (Kd.R_far (p := ⟨gb245, 1, none⟩) (Kd.R_far (p := ⟨gb245, 0, none⟩) (Kd.R_types HO229.out BK245.out (by decide)) (fun _ hk => hk.2) (.int .i64 t239)) (fun _ hk => hk.2) (.int .i64 t240)) (fun _ hk => hk.2) (.slice Ao39 t241.length co39)) (fun _ h_ => h_.1))))) (Kd.R_lt (by (with_reducible repeat (first | apply Kd.R_alloc | apply Kd.R_drewN | apply Kd.R_drew)); exact (Kd.R_mono (Kd.R_far (p := ⟨gb245, 2, none⟩) (Kd.R_far (p := ⟨gb245, 1, none⟩) (Kd.R_far (p := ⟨gb245, 0, none⟩) (Kd.R_types HO236.out BK245.out (by decide)) (fun _ hk => hk.2) (.int .i64 t239)) (fun _ hk => hk.2) (.int .i64 t240)) (fun _ hk => hk.2) (.slice Ao39 t241.length co39)) (fun _ h_ => h_.1))))) (Kd.R_lt (by (with_reducible repeat (first | apply Kd.R_alloc | apply Kd.R_drewN | apply Kd.R_drew)); exact (Kd.R_mono (Kd.R_far (p := ⟨gb245, 2, none⟩) (Kd.R_far (p := ⟨gb245, 1, none⟩) (Kd.R_far (p := ⟨gb245, 0, none⟩) (Kd.R_types HO243.out BK245.out (by decide)) (fun _ hk => hk.2) (.int .i64 t239)) (fun _ hk => hk.2) (.int .i64 t240)) (fun _ hk => hk.2) (.slice Ao39 t241.length co39)) (fun _ h_ => h_.1))))) (below_size (by repeat (first | (with_reducible first | exact HB.out | apply below_alloc | apply pw_below_drewN | apply below_drew1 | refine below_set ?_ GE222.out | refine below_set ?_ GE231.out | refine below_set ?_ GE238.out | refine below_set ?_ GE245.out) | exact HB.out)))); have n4_ := Aside0.mk (blk_below (g := gb222) (o := .cells #[.int .i64 a0_0, .int .i64 a0_1, .slice A0_2 l0_2.length c0_2] 31 (0, 0)) (by (with_reducible repeat (first | refine blk_drewN ?_ _ | refine blk_drew ?_ | refine blk_alloc ?_ _)); refine blk_far ?_ NB222_245.out _; (with_reducible repeat (first | refine blk_drewN ?_ _ | refine blk_drew ?_ | refine blk_alloc ?_ _)); refine blk_far ?_ NB222_245.out _; (with_reducible repeat (first | refine blk_drewN ?_ _ | refine blk_drew ?_ | refine blk_alloc ?_ _)); refine blk_far ?_ NB222_245.out _; (with_reducible repeat (first | refine blk_drewN ?_ _ | refine blk_drew ?_ | refine blk_alloc ?_ _)); exact BK222.out) hb); have n5_ := Aside0.mk (blk_below (g := gb231) (o := .cells #[.int .i64 t225, .int .i64 t226, .slice Ao24 t227.length co24] 31 (0, 0)) (by (with_reducible repeat (first | refine blk_drewN ?_ _ | refine blk_drew ?_ | refine blk_alloc ?_ _)); refine blk_far ?_ NB231_245.out _; (with_reducible repeat (first | refine blk_drewN ?_ _ | refine blk_drew ?_ | refine blk_alloc ?_ _)); refine blk_far ?_ NB231_245.out _; (with_reducible repeat (first | refine blk_drewN ?_ _ | refine blk_drew ?_ | refine blk_alloc ?_ _)); refine blk_far ?_ NB231_245.out _; (with_reducible repeat (first | refine blk_drewN ?_ _ | refine blk_drew ?_ | refine blk_alloc ?_ _)); exact BK231.out) hb); have n6_ := Aside0.mk (blk_below (g := gb238) (o := .cells #[.int .i64 t232, .int .i64 t233, .slice Ao31 t234.length co31] 31 (0, 0)) (by (with_reducible repeat (first | refine blk_drewN ?_ _ | refine blk_drew ?_ | refine blk_alloc ?_ _)); refine blk_far ?_ NB238_245.out _; (with_reducible repeat (first | refine blk_drewN ?_ _ | refine blk_drew ?_ | refine blk_alloc ?_ _)); refine blk_far ?_ NB238_245.out _; (with_reducible repeat (first | refine blk_drewN ?_ _ | refine blk_drew ?_ | refine blk_alloc ?_ _)); refine blk_far ?_ NB238_245.out _; (with_reducible repeat (first | refine blk_drewN ?_ _ | refine blk_drew ?_ | refine blk_alloc ?_ _)); exact BK238.out) hb); have n7_ := Aside0.mk (blk_below (g := gb245) (o := .cells #[.int .i64 t239, .int .i64 t240, .slice Ao39 t241.length co39] 31 (0, 0)) (by (with_reducible repeat (first | refine blk_drewN ?_ _ | refine blk_drew ?_ | refine blk_alloc ?_ _)); refine blk_put (cs := #[.int .i64 t239, .int .i64 t240, .slice none 0 0]) ?_ 2 _ rfl; (with_reducible repeat (first | refine blk_drewN ?_ _ | refine blk_drew ?_ | refine blk_alloc ?_ _)); refine blk_put (cs := #[.int .i64 t239, .int .i64 0, .slice none 0 0]) ?_ 1 _ rfl; (with_reducible repeat (first | refine blk_drewN ?_ _ | refine blk_drew ?_ | refine blk_alloc ?_ _)); refine blk_put (cs := #[.int .i64 0, .int .i64 0, .slice none 0 0]) ?_ 0 _ rfl; (with_reducible repeat (first | refine blk_drewN ?_ _ | refine blk_drew ?_ | refine blk_alloc ?_ _)); exact BK245.out) hb); have n8_ := Aside0.mk (below_step (by repeat (first | (with_reducible first | exact HB.out | apply below_alloc | apply pw_below_drewN | apply below_drew1 | refine below_set ?_ GE222.out | refine below_set ?_ GE231.out | refine below_set ?_ GE238.out | refine below_set ?_ GE245.out) | exact HB.out)) hb); clear HO229; clear HO236; clear HO243; clear BK222; clear BK231; clear BK238; clear BK245; clear HB; have HO229 := n0_; have HO236 := n1_; have HO243 := n2_; have HO250 := n3_; have BK222 := n4_; have BK231 := n5_; have BK238 := n6_; have BK245 := n7_; have HB := n8_; clear n0_ n1_ n2_ n3_ n4_ n5_ n6_ n7_ n8_; (try clear hb); (try clear hb2); (try clear hk); (try clear hi); (try clear ho0)) | ((with_reducible refine gate_dst (N := 13) rfl ?_); refine box_event ?hg (N := 13) ?hd (cs := #[.int .i64 0, .int .i64 0, .slice none 0 0]) (t := 31) ?hr ?_; (case hd => rfl); (case hg => rfl); (case hr => first | (go_simp; done) | (go_simp; rfl)); intro gb252 hg w42 hbox hb; have n0_ := Aside0.mk (Kd.R_below (rU HO229.out) hb); have n1_ := Aside0.mk (Kd.R_below (rU HO236.out) hb); have n2_ := Aside0.mk (Kd.R_below (rU HO243.out) hb); have n3_ := Aside0.mk (Kd.R_below (rU HO250.out) hb); have n4_ := Aside0.mk (blk_below (bU BK222.out) hb); have n5_ := Aside0.mk (blk_below (bU BK231.out) hb); have n6_ := Aside0.mk (blk_below (bU BK238.out) hb); have n7_ := Aside0.mk (blk_below (bU BK245.out) hb); have n8_ := Aside0.mk (below_step (by repeat (first | (with_reducible first | exact HB.out | apply below_alloc | apply pw_below_drewN | apply below_drew1 | refine below_set ?_ GE222.out | refine below_set ?_ GE231.out | refine below_set ?_ GE238.out | refine below_set ?_ GE245.out) | exact HB.out)) hb); have n9_ := Aside0.mk (hbox); have n10_ := Aside0.mk ((by rw [hg]; exact (below_size (by repeat (first | (with_reducible first | exact HB.out | apply below_alloc | apply pw_below_drewN | apply below_drew1 | refine below_set ?_ GE222.out | refine below_set ?_ GE231.out | refine below_set ?_ GE238.out | refine below_set ?_ GE245.out) | exact HB.out))) : w.heap.size ≤ gb252)); have n11_ := Aside0.mk ((by rw [hg]; exact (below_size (by repeat (first | (with_reducible first | exact HB.out | apply below_alloc | apply pw_below_drewN | apply below_drew1 | refine below_set ?_ GE222.out | refine below_set ?_ GE231.out | refine below_set ?_ GE238.out | refine below_set ?_ GE245.out) | exact HB.out))) : w.heap.size ≤ gb252)); have n12_ := Aside0.mk ((by rw [hg]; exact Nat.ne_of_lt (blk_lt (bU BK222.out)) : gb222 ≠ gb252)); have n13_ := Aside0.mk ((by rw [hg]; exact Nat.ne_of_gt (blk_lt (bU BK222.out)) : gb252 ≠ gb222)); have n14_ := Aside0.mk ((by rw [hg]; exact Nat.ne_of_lt (blk_lt (bU BK231.out)) : gb231 ≠ gb252)); have n15_ := Aside0.mk ((by rw [hg]; exact Nat.ne_of_gt (blk_lt (bU BK231.out)) : gb252 ≠ gb231)); have n16_ := Aside0.mk ((by rw [hg]; exact Nat.ne_of_lt (blk_lt (bU BK238.out)) : gb238 ≠ gb252)); have n17_ := Aside0.mk ((by rw [hg]; exact Nat.ne_of_gt (blk_lt (bU BK238.out)) : gb252 ≠ gb238)); have n18_ := Aside0.mk ((by rw [hg]; exact Nat.ne_of_lt (blk_lt (bU BK245.out)) : gb245 ≠ gb252)); have n19_ := Aside0.mk ((by rw [hg]; exact Nat.ne_of_gt (blk_lt (bU BK245.out)) : gb252 ≠ gb245)); clear HO229; clear HO236; clear HO243; clear HO250; clear BK222; clear BK231; clear BK238; clear BK245; clear HB; have HO229 := n0_; have HO236 := n1_; have HO243 := n2_; have HO250 := n3_; have BK222 := n4_; have BK231 := n5_; have BK238 := n6_; have BK245 := n7_; have HB := n8_; have BK252 := n9_; have GW252 := n10_; have GE252 := n11_; have NB222_252 := n12_; have NB252_222 := n13_; have NB231_252 := n14_; have NB252_231 := n15_; have NB238_252 := n16_; have NB252_238 := n17_; have NB245_252 := n18_; have NB252_245 := n19_; clear n0_ n1_ n2_ n3_ n4_ n5_ n6_ n7_ n8_ n9_ n10_ n11_ n12_ n13_ n14_ n15_ n16_ n17_ n18_ n19_; clear hb hbox hg; have hnb43 := NB252_222.out; have hnc43 := NB222_252.out; have hnb44 := NB252_231.out; have hnc44 := NB231_252.out; have hnb45 := NB252_238.out; have hnc45 := NB238_252.out; have hnb46 := NB252_245.out; have hnc46 := NB245_252.out; have hcz47_0 : w42.cell? ⟨gb252, 0, none⟩ = some (.int .i64 0) := (blk_cell BK252.out 0).trans rfl; have hcz47_1 : w42.cell? ⟨gb252, 1, none⟩ = some (.int .i64 0) := (blk_cell BK252.out 1).trans rfl; have hcz47_2 : w42.cell? ⟨gb252, 2, none⟩ = some (.slice none 0 0) := (blk_cell BK252.out 2).trans rfl; have hfz47_0 := blk_frozen BK252.out 0; have hfz47_1 := blk_frozen BK252.out 1; have hfz47_2 := blk_frozen BK252.out 2; obtain ⟨Ao48, co48, eo48⟩ := Kd.R_slice HO250.out; subst eo48))
    (try simp only [Act.put, List.setIfInBounds_toArray, List.set_cons_zero, List.set_cons_succ])
    go_cut [66] (fun v66 wc => ∃ (kq : Nat) (x66_14 : Bool), v66 = .bool x66_14 ∧ Aside0 (incunablelaw29_ScanRings.j0 kq a1 a2 t230 x66_14 a0_0 a0_1 l0_2 t225 t226 t227 t239 t240 t241 = some r) ∧ Aside0 (kq ≤ k) ∧ Aside0 (Kd.R (Kd.int .u8) 5 wc w.heap.size (fun k_ => some k_ ≠ ((.slice Ao31 t234.length co31) : Value).ownBlock ∧ some k_ ≠ ((.slice Ao39 t241.length co39) : Value).ownBlock ∧ some k_ ≠ ((.slice Ao48 t248.length co48) : Value).ownBlock) (.slice Ao24 t227.length co24) t227) ∧ Aside0 (Kd.R (Kd.int .u8) 5 wc w.heap.size (fun k_ => some k_ ≠ ((.slice Ao24 t227.length co24) : Value).ownBlock ∧ some k_ ≠ ((.slice Ao39 t241.length co39) : Value).ownBlock ∧ some k_ ≠ ((.slice Ao48 t248.length co48) : Value).ownBlock) (.slice Ao31 t234.length co31) t234) ∧ Aside0 (Kd.R (Kd.int .u8) 5 wc w.heap.size (fun k_ => some k_ ≠ ((.slice Ao24 t227.length co24) : Value).ownBlock ∧ some k_ ≠ ((.slice Ao31 t234.length co31) : Value).ownBlock ∧ some k_ ≠ ((.slice Ao48 t248.length co48) : Value).ownBlock) (.slice Ao39 t241.length co39) t241) ∧ Aside0 (Kd.R (Kd.int .u8) 5 wc w.heap.size (fun k_ => some k_ ≠ ((.slice Ao24 t227.length co24) : Value).ownBlock ∧ some k_ ≠ ((.slice Ao31 t234.length co31) : Value).ownBlock ∧ some k_ ≠ ((.slice Ao39 t241.length co39) : Value).ownBlock) (.slice Ao48 t248.length co48) t248) ∧ Aside0 (wc.heap[gb222]? = some (.cells #[.int .i64 a0_0, .int .i64 a0_1, (.slice A0_2 l0_2.length c0_2)] 31 (0, 0))) ∧ Aside0 (wc.heap[gb231]? = some (.cells #[.int .i64 t225, .int .i64 t226, (.slice Ao24 t227.length co24)] 31 (0, 0))) ∧ Aside0 (wc.heap[gb238]? = some (.cells #[.int .i64 t232, .int .i64 t233, (.slice Ao31 t234.length co31)] 31 (0, 0))) ∧ Aside0 (wc.heap[gb245]? = some (.cells #[.int .i64 t239, .int .i64 t240, (.slice Ao39 t241.length co39)] 31 (0, 0))) ∧ Aside0 (wc.heap[gb252]? = some (.cells #[.int .i64 t246, .int .i64 t247, (.slice Ao48 t248.length co48)] 31 (0, 0))) ∧ Aside0 (Below w.heap.size w wc))
    case first =>
      have H := HC15.out
      clear HC15
      by_cases c49 : t230 = t237
      · rw [if_pos c49] at H
        have c49b0 : (t230 == t237) = true := beq_iff_eq.mpr c49
        have c49b1 : (t230 != t237) = false := bne_eq_false_iff_eq.mpr c49
        clear c49
        (first | rw [c49b0] | (simp only [i64_w, i32_w]; rw [c49b0]) | skip)
        by_cases c50 : t244 = t251
        · rw [if_pos c50] at H
          have c50b0 : (t244 == t251) = true := beq_iff_eq.mpr c50
          have c50b1 : (t244 != t251) = false := bne_eq_false_iff_eq.mpr c50
          clear c50
          replace H := Option.bind_eq_some_iff.mp H
          obtain ⟨t253, A510, H⟩ := H
          replace H : (if t253 = true then ((incunableref05_Same.f t239 t240 t241 t246 t247 t248).bind fun t254 => (incunablelaw29_ScanRings.j0 k a1 a2 t230 (!t254) a0_0 a0_1 l0_2 t225 t226 t227 t239 t240 t241)) else (incunablelaw29_ScanRings.j0 k a1 a2 t230 true a0_0 a0_1 l0_2 t225 t226 t227 t239 t240 t241)) = some r := H
          have A51 := Aside0.mk A510
          clear A510
          by_cases c52 : t253 = true
          · subst c52
            have H1 : ((incunableref05_Same.f t239 t240 t241 t246 t247 t248).bind fun t254 => (incunablelaw29_ScanRings.j0 k a1 a2 t230 (!t254) a0_0 a0_1 l0_2 t225 t226 t227 t239 t240 t241)) = some r := by rw [if_pos rfl] at H; exact H
            clear H
            have H := H1
            clear H1
            replace H := Option.bind_eq_some_iff.mp H
            obtain ⟨t254, A530, H⟩ := H
            replace H : (incunablelaw29_ScanRings.j0 k a1 a2 t230 (!t254) a0_0 a0_1 l0_2 t225 t226 t227 t239 t240 t241) = some r := H
            have A53 := Aside0.mk A530
            clear A530
            have H' := Aside0.mk H
            clear H
            have hnb54 := NB231_222.out
            have hnc54 := NB222_231.out
            have hnb55 := NB231_238.out
            have hnc55 := NB238_231.out
            have hnb56 := NB231_245.out
            have hnc56 := NB245_231.out
            have hnb57 := NB231_252.out
            have hnc57 := NB252_231.out
            have hcz58_0 : w42.cell? ⟨gb231, 0, none⟩ = some (.int .i64 t225) := (blk_cell BK231.out 0).trans rfl
            have hcz58_1 : w42.cell? ⟨gb231, 1, none⟩ = some (.int .i64 t226) := (blk_cell BK231.out 1).trans rfl
            have hcz58_2 : w42.cell? ⟨gb231, 2, none⟩ = some (.slice Ao24 t227.length co24) := (blk_cell BK231.out 2).trans rfl
            have hfz58_0 := blk_frozen BK231.out 0
            have hfz58_1 := blk_frozen BK231.out 1
            have hfz58_2 := blk_frozen BK231.out 2
            have hnb59 := NB238_222.out
            have hnc59 := NB222_238.out
            have hnb60 := NB238_245.out
            have hnc60 := NB245_238.out
            have hnb61 := NB238_252.out
            have hnc61 := NB252_238.out
            have hcz62_0 : w42.cell? ⟨gb238, 0, none⟩ = some (.int .i64 t232) := (blk_cell BK238.out 0).trans rfl
            have hcz62_1 : w42.cell? ⟨gb238, 1, none⟩ = some (.int .i64 t233) := (blk_cell BK238.out 1).trans rfl
            have hcz62_2 : w42.cell? ⟨gb238, 2, none⟩ = some (.slice Ao31 t234.length co31) := (blk_cell BK238.out 2).trans rfl
            have hfz62_0 := blk_frozen BK238.out 0
            have hfz62_1 := blk_frozen BK238.out 1
            have hfz62_2 := blk_frozen BK238.out 2
            go_wp2_with (first | (go_at_call 18; (with_reducible refine (incunableref05_Same.calls t225 t226 _ _ t227 t232 t233 _ _ t234 true _ ?side1 ?side2 ?side3 ?side4 A51.out).mono ?_); (case side1 => refine (Kd.R_reads' (e := 5) (base := w.heap.size) (ok := fun k_ => (((True ∧ some k_ ≠ (.slice Ao31 t234.length co31 : Value).ownBlock) ∧ some k_ ≠ (.slice Ao39 t241.length co39 : Value).ownBlock) ∧ some k_ ≠ (.slice Ao48 t248.length co48 : Value).ownBlock)) (n := t227.length) (c := co24) ?_).2.2; exact (by (with_reducible repeat (first | apply Kd.R_alloc | apply Kd.R_drewN | apply Kd.R_drew)); exact (Kd.R_mono (Kd.R_far (p := ⟨gb252, 2, none⟩) (Kd.R_far (p := ⟨gb252, 1, none⟩) (Kd.R_far (p := ⟨gb252, 0, none⟩) (Kd.R_types HO229.out BK252.out (by decide)) (fun _ hk => hk.2) (.int .i64 t246)) (fun _ hk => hk.2) (.int .i64 t247)) (fun _ hk => hk.2) (.slice Ao48 t248.length co48)) (fun _ h_ => h_.1)))); (case side2 => exact (Kd.R_reads' HO229.out).2.1); (case side3 => refine (Kd.R_reads' (e := 5) (base := w.heap.size) (ok := fun k_ => (((True ∧ some k_ ≠ (.slice Ao24 t227.length co24 : Value).ownBlock) ∧ some k_ ≠ (.slice Ao39 t241.length co39 : Value).ownBlock) ∧ some k_ ≠ (.slice Ao48 t248.length co48 : Value).ownBlock)) (n := t234.length) (c := co31) ?_).2.2; exact (by (with_reducible repeat (first | apply Kd.R_alloc | apply Kd.R_drewN | apply Kd.R_drew)); exact (Kd.R_mono (Kd.R_far (p := ⟨gb252, 2, none⟩) (Kd.R_far (p := ⟨gb252, 1, none⟩) (Kd.R_far (p := ⟨gb252, 0, none⟩) (Kd.R_types HO236.out BK252.out (by decide)) (fun _ hk => hk.2) (.int .i64 t246)) (fun _ hk => hk.2) (.int .i64 t247)) (fun _ hk => hk.2) (.slice Ao48 t248.length co48)) (fun _ h_ => h_.1)))); (case side4 => exact (Kd.R_reads' HO236.out).2.1); rintro e w63 ⟨rfl, hb⟩; have n0_ := Aside0.mk (Kd.R_below (by (with_reducible repeat (first | apply Kd.R_alloc | apply Kd.R_drewN | apply Kd.R_drew)); exact (Kd.R_mono (Kd.R_far (p := ⟨gb252, 2, none⟩) (Kd.R_far (p := ⟨gb252, 1, none⟩) (Kd.R_far (p := ⟨gb252, 0, none⟩) (Kd.R_types HO229.out BK252.out (by decide)) (fun _ hk => hk.2) (.int .i64 t246)) (fun _ hk => hk.2) (.int .i64 t247)) (fun _ hk => hk.2) (.slice Ao48 t248.length co48)) (fun _ h_ => h_.1))) hb); have n1_ := Aside0.mk (Kd.R_below (by (with_reducible repeat (first | apply Kd.R_alloc | apply Kd.R_drewN | apply Kd.R_drew)); exact (Kd.R_mono (Kd.R_far (p := ⟨gb252, 2, none⟩) (Kd.R_far (p := ⟨gb252, 1, none⟩) (Kd.R_far (p := ⟨gb252, 0, none⟩) (Kd.R_types HO236.out BK252.out (by decide)) (fun _ hk => hk.2) (.int .i64 t246)) (fun _ hk => hk.2) (.int .i64 t247)) (fun _ hk => hk.2) (.slice Ao48 t248.length co48)) (fun _ h_ => h_.1))) hb); have n2_ := Aside0.mk (Kd.R_below (by (with_reducible repeat (first | apply Kd.R_alloc | apply Kd.R_drewN | apply Kd.R_drew)); exact (Kd.R_mono (Kd.R_far (p := ⟨gb252, 2, none⟩) (Kd.R_far (p := ⟨gb252, 1, none⟩) (Kd.R_far (p := ⟨gb252, 0, none⟩) (Kd.R_types HO243.out BK252.out (by decide)) (fun _ hk => hk.2) (.int .i64 t246)) (fun _ hk => hk.2) (.int .i64 t247)) (fun _ hk => hk.2) (.slice Ao48 t248.length co48)) (fun _ h_ => h_.1))) hb); have n3_ := Aside0.mk (Kd.R_below (by (with_reducible repeat (first | apply Kd.R_alloc | apply Kd.R_drewN | apply Kd.R_drew)); exact (Kd.R_mono (Kd.R_far (p := ⟨gb252, 2, none⟩) (Kd.R_far (p := ⟨gb252, 1, none⟩) (Kd.R_far (p := ⟨gb252, 0, none⟩) (Kd.R_types HO250.out BK252.out (by decide)) (fun _ hk => hk.2) (.int .i64 t246)) (fun _ hk => hk.2) (.int .i64 t247)) (fun _ hk => hk.2) (.slice Ao48 t248.length co48)) (fun _ h_ => h_.1))) hb); have n4_ := Aside0.mk (blk_below (g := gb222) (o := .cells #[.int .i64 a0_0, .int .i64 a0_1, .slice A0_2 l0_2.length c0_2] 31 (0, 0)) (by (with_reducible repeat (first | refine blk_drewN ?_ _ | refine blk_drew ?_ | refine blk_alloc ?_ _)); refine blk_far ?_ NB222_252.out _; (with_reducible repeat (first | refine blk_drewN ?_ _ | refine blk_drew ?_ | refine blk_alloc ?_ _)); refine blk_far ?_ NB222_252.out _; (with_reducible repeat (first | refine blk_drewN ?_ _ | refine blk_drew ?_ | refine blk_alloc ?_ _)); refine blk_far ?_ NB222_252.out _; (with_reducible repeat (first | refine blk_drewN ?_ _ | refine blk_drew ?_ | refine blk_alloc ?_ _)); exact BK222.out) hb); have n5_ := Aside0.mk (blk_below (g := gb231) (o := .cells #[.int .i64 t225, .int .i64 t226, .slice Ao24 t227.length co24] 31 (0, 0)) (by (with_reducible repeat (first | refine blk_drewN ?_ _ | refine blk_drew ?_ | refine blk_alloc ?_ _)); refine blk_far ?_ NB231_252.out _; (with_reducible repeat (first | refine blk_drewN ?_ _ | refine blk_drew ?_ | refine blk_alloc ?_ _)); refine blk_far ?_ NB231_252.out _; (with_reducible repeat (first | refine blk_drewN ?_ _ | refine blk_drew ?_ | refine blk_alloc ?_ _)); refine blk_far ?_ NB231_252.out _; (with_reducible repeat (first | refine blk_drewN ?_ _ | refine blk_drew ?_ | refine blk_alloc ?_ _)); exact BK231.out) hb); have n6_ := Aside0.mk (blk_below (g := gb238) (o := .cells #[.int .i64 t232, .int .i64 t233, .slice Ao31 t234.length co31] 31 (0, 0)) (by (with_reducible repeat (first | refine blk_drewN ?_ _ | refine blk_drew ?_ | refine blk_alloc ?_ _)); refine blk_far ?_ NB238_252.out _; (with_reducible repeat (first | refine blk_drewN ?_ _ | refine blk_drew ?_ | refine blk_alloc ?_ _)); refine blk_far ?_ NB238_252.out _; (with_reducible repeat (first | refine blk_drewN ?_ _ | refine blk_drew ?_ | refine blk_alloc ?_ _)); refine blk_far ?_ NB238_252.out _; (with_reducible repeat (first | refine blk_drewN ?_ _ | refine blk_drew ?_ | refine blk_alloc ?_ _)); exact BK238.out) hb); have n7_ := Aside0.mk (blk_below (g := gb245) (o := .cells #[.int .i64 t239, .int .i64 t240, .slice Ao39 t241.length co39] 31 (0, 0)) (by (with_reducible repeat (first | refine blk_drewN ?_ _ | refine blk_drew ?_ | refine blk_alloc ?_ _)); refine blk_far ?_ NB245_252.out _; (with_reducible repeat (first | refine blk_drewN ?_ _ | refine blk_drew ?_ | refine blk_alloc ?_ _)); refine blk_far ?_ NB245_252.out _; (with_reducible repeat (first | refine blk_drewN ?_ _ | refine blk_drew ?_ | refine blk_alloc ?_ _)); refine blk_far ?_ NB245_252.out _; (with_reducible repeat (first | refine blk_drewN ?_ _ | refine blk_drew ?_ | refine blk_alloc ?_ _)); exact BK245.out) hb); have n8_ := Aside0.mk (blk_below (g := gb252) (o := .cells #[.int .i64 t246, .int .i64 t247, .slice Ao48 t248.length co48] 31 (0, 0)) (by (with_reducible repeat (first | refine blk_drewN ?_ _ | refine blk_drew ?_ | refine blk_alloc ?_ _)); refine blk_put (cs := #[.int .i64 t246, .int .i64 t247, .slice none 0 0]) ?_ 2 _ rfl; (with_reducible repeat (first | refine blk_drewN ?_ _ | refine blk_drew ?_ | refine blk_alloc ?_ _)); refine blk_put (cs := #[.int .i64 t246, .int .i64 0, .slice none 0 0]) ?_ 1 _ rfl; (with_reducible repeat (first | refine blk_drewN ?_ _ | refine blk_drew ?_ | refine blk_alloc ?_ _)); refine blk_put (cs := #[.int .i64 0, .int .i64 0, .slice none 0 0]) ?_ 0 _ rfl; (with_reducible repeat (first | refine blk_drewN ?_ _ | refine blk_drew ?_ | refine blk_alloc ?_ _)); exact BK252.out) hb); have n9_ := Aside0.mk (below_step (by repeat (first | (with_reducible first | exact HB.out | apply below_alloc | apply pw_below_drewN | apply below_drew1 | refine below_set ?_ GE222.out | refine below_set ?_ GE231.out | refine below_set ?_ GE238.out | refine below_set ?_ GE245.out | refine below_set ?_ GE252.out) | exact HB.out)) hb); clear HO229; clear HO236; clear HO243; clear HO250; clear BK222; clear BK231; clear BK238; clear BK245; clear BK252; clear HB; have HO229 := n0_; have HO236 := n1_; have HO243 := n2_; have HO250 := n3_; have BK222 := n4_; have BK231 := n5_; have BK238 := n6_; have BK245 := n7_; have BK252 := n8_; have HB := n9_; clear n0_ n1_ n2_ n3_ n4_ n5_ n6_ n7_ n8_ n9_; (try clear hb); (try clear hb2); (try clear hk); (try clear hi); have hnb64 := NB245_222.out; have hnc64 := NB222_245.out; have hnb65 := NB245_252.out; have hnc65 := NB252_245.out; have hcz66_0 : w63.cell? ⟨gb245, 0, none⟩ = some (.int .i64 t239) := (blk_cell BK245.out 0).trans rfl; have hcz66_1 : w63.cell? ⟨gb245, 1, none⟩ = some (.int .i64 t240) := (blk_cell BK245.out 1).trans rfl; have hcz66_2 : w63.cell? ⟨gb245, 2, none⟩ = some (.slice Ao39 t241.length co39) := (blk_cell BK245.out 2).trans rfl; have hfz66_0 := blk_frozen BK245.out 0; have hfz66_1 := blk_frozen BK245.out 1; have hfz66_2 := blk_frozen BK245.out 2; have hnb67 := NB252_222.out; have hnc67 := NB222_252.out; have hcz68_0 : w63.cell? ⟨gb252, 0, none⟩ = some (.int .i64 t246) := (blk_cell BK252.out 0).trans rfl; have hcz68_1 : w63.cell? ⟨gb252, 1, none⟩ = some (.int .i64 t247) := (blk_cell BK252.out 1).trans rfl; have hcz68_2 : w63.cell? ⟨gb252, 2, none⟩ = some (.slice Ao48 t248.length co48) := (blk_cell BK252.out 2).trans rfl; have hfz68_0 := blk_frozen BK252.out 0; have hfz68_1 := blk_frozen BK252.out 1; have hfz68_2 := blk_frozen BK252.out 2) | (go_at_call 18; (with_reducible refine (incunableref05_Same.calls t239 t240 _ _ t241 t246 t247 _ _ t248 t254 _ ?side1 ?side2 ?side3 ?side4 A53.out).mono ?_); (case side1 => repeat (first | exact (Kd.R_reads' HO243.out).2.2 | (with_reducible refine Kd.C_alloc ?_ _) | (with_reducible refine Kd.C_drewN ?_ _) | (with_reducible refine Kd.C_drew ?_))); (case side2 => exact (Kd.R_reads' HO243.out).2.1); (case side3 => repeat (first | exact (Kd.R_reads' HO250.out).2.2 | (with_reducible refine Kd.C_alloc ?_ _) | (with_reducible refine Kd.C_drewN ?_ _) | (with_reducible refine Kd.C_drew ?_))); (case side4 => exact (Kd.R_reads' HO250.out).2.1); rintro e w69 ⟨rfl, hb⟩; have n0_ := Aside0.mk (Kd.R_below (rU HO229.out) hb); have n1_ := Aside0.mk (Kd.R_below (rU HO236.out) hb); have n2_ := Aside0.mk (Kd.R_below (rU HO243.out) hb); have n3_ := Aside0.mk (Kd.R_below (rU HO250.out) hb); have n4_ := Aside0.mk (blk_below (bU BK222.out) hb); have n5_ := Aside0.mk (blk_below (bU BK231.out) hb); have n6_ := Aside0.mk (blk_below (bU BK238.out) hb); have n7_ := Aside0.mk (blk_below (bU BK245.out) hb); have n8_ := Aside0.mk (blk_below (bU BK252.out) hb); have n9_ := Aside0.mk (below_step (by repeat (first | (with_reducible first | exact HB.out | apply below_alloc | apply pw_below_drewN | apply below_drew1 | refine below_set ?_ GE222.out | refine below_set ?_ GE231.out | refine below_set ?_ GE238.out | refine below_set ?_ GE245.out | refine below_set ?_ GE252.out) | exact HB.out)) hb); clear HO229; clear HO236; clear HO243; clear HO250; clear BK222; clear BK231; clear BK238; clear BK245; clear BK252; clear HB; have HO229 := n0_; have HO236 := n1_; have HO243 := n2_; have HO250 := n3_; have BK222 := n4_; have BK231 := n5_; have BK238 := n6_; have BK245 := n7_; have BK252 := n8_; have HB := n9_; clear n0_ n1_ n2_ n3_ n4_ n5_ n6_ n7_ n8_ n9_; (try clear hb); (try clear hb2); (try clear hk); (try clear hi)))
            go_meet
            case rel => exact ⟨_, (!t254), (by first | rfl | (simp; done) | (simp [*]; done)), H', ⟨by first | omega | exact Nat.le_refl _⟩, ⟨by (with_reducible repeat (first | apply Kd.R_alloc | apply Kd.R_drewN | apply Kd.R_drew)); exact Kd.R_mono HO229.out (fun _ hk => ⟨hk.1.1.2, ⟨hk.1.2, hk.2⟩⟩)⟩, ⟨by (with_reducible repeat (first | apply Kd.R_alloc | apply Kd.R_drewN | apply Kd.R_drew)); exact Kd.R_mono HO236.out (fun _ hk => ⟨hk.1.1.2, ⟨hk.1.2, hk.2⟩⟩)⟩, ⟨by (with_reducible repeat (first | apply Kd.R_alloc | apply Kd.R_drewN | apply Kd.R_drew)); exact Kd.R_mono HO243.out (fun _ hk => ⟨hk.1.1.2, ⟨hk.1.2, hk.2⟩⟩)⟩, ⟨by (with_reducible repeat (first | apply Kd.R_alloc | apply Kd.R_drewN | apply Kd.R_drew)); exact Kd.R_mono HO250.out (fun _ hk => ⟨hk.1.1.2, ⟨hk.1.2, hk.2⟩⟩)⟩, ⟨by (with_reducible repeat (first | refine blk_drewN ?_ _ | refine blk_drew ?_ | refine blk_alloc ?_ _)); exact BK222.out⟩, ⟨by (with_reducible repeat (first | refine blk_drewN ?_ _ | refine blk_drew ?_ | refine blk_alloc ?_ _)); exact BK231.out⟩, ⟨by (with_reducible repeat (first | refine blk_drewN ?_ _ | refine blk_drew ?_ | refine blk_alloc ?_ _)); exact BK238.out⟩, ⟨by (with_reducible repeat (first | refine blk_drewN ?_ _ | refine blk_drew ?_ | refine blk_alloc ?_ _)); exact BK245.out⟩, ⟨by (with_reducible repeat (first | refine blk_drewN ?_ _ | refine blk_drew ?_ | refine blk_alloc ?_ _)); exact BK252.out⟩, ⟨by repeat (first | (with_reducible first | exact HB.out | apply below_alloc | apply pw_below_drewN | apply below_drew1 | refine below_set ?_ GE222.out | refine below_set ?_ GE231.out | refine below_set ?_ GE238.out | refine below_set ?_ GE245.out | refine below_set ?_ GE252.out) | exact HB.out)⟩⟩
          · replace c52 := Bool.eq_false_iff.mpr c52
            subst c52
            have H1 : (incunablelaw29_ScanRings.j0 k a1 a2 t230 true a0_0 a0_1 l0_2 t225 t226 t227 t239 t240 t241) = some r := by rw [if_neg (show ¬ (false = true) by decide)] at H; exact H
            clear H
            have H := H1
            clear H1
            have H' := Aside0.mk H
            clear H
            have hnb70 := NB231_222.out
            have hnc70 := NB222_231.out
            have hnb71 := NB231_238.out
            have hnc71 := NB238_231.out
            have hnb72 := NB231_245.out
            have hnc72 := NB245_231.out
            have hnb73 := NB231_252.out
            have hnc73 := NB252_231.out
            have hcz74_0 : w42.cell? ⟨gb231, 0, none⟩ = some (.int .i64 t225) := (blk_cell BK231.out 0).trans rfl
            have hcz74_1 : w42.cell? ⟨gb231, 1, none⟩ = some (.int .i64 t226) := (blk_cell BK231.out 1).trans rfl
            have hcz74_2 : w42.cell? ⟨gb231, 2, none⟩ = some (.slice Ao24 t227.length co24) := (blk_cell BK231.out 2).trans rfl
            have hfz74_0 := blk_frozen BK231.out 0
            have hfz74_1 := blk_frozen BK231.out 1
            have hfz74_2 := blk_frozen BK231.out 2
            have hnb75 := NB238_222.out
            have hnc75 := NB222_238.out
            have hnb76 := NB238_245.out
            have hnc76 := NB245_238.out
            have hnb77 := NB238_252.out
            have hnc77 := NB252_238.out
            have hcz78_0 : w42.cell? ⟨gb238, 0, none⟩ = some (.int .i64 t232) := (blk_cell BK238.out 0).trans rfl
            have hcz78_1 : w42.cell? ⟨gb238, 1, none⟩ = some (.int .i64 t233) := (blk_cell BK238.out 1).trans rfl
            have hcz78_2 : w42.cell? ⟨gb238, 2, none⟩ = some (.slice Ao31 t234.length co31) := (blk_cell BK238.out 2).trans rfl
            have hfz78_0 := blk_frozen BK238.out 0
            have hfz78_1 := blk_frozen BK238.out 1
            have hfz78_2 := blk_frozen BK238.out 2
            go_wp2_with (first | (go_at_call 18; (with_reducible refine (incunableref05_Same.calls t225 t226 _ _ t227 t232 t233 _ _ t234 false _ ?side1 ?side2 ?side3 ?side4 A51.out).mono ?_); (case side1 => refine (Kd.R_reads' (e := 5) (base := w.heap.size) (ok := fun k_ => (((True ∧ some k_ ≠ (.slice Ao31 t234.length co31 : Value).ownBlock) ∧ some k_ ≠ (.slice Ao39 t241.length co39 : Value).ownBlock) ∧ some k_ ≠ (.slice Ao48 t248.length co48 : Value).ownBlock)) (n := t227.length) (c := co24) ?_).2.2; exact (by (with_reducible repeat (first | apply Kd.R_alloc | apply Kd.R_drewN | apply Kd.R_drew)); exact (Kd.R_mono (Kd.R_far (p := ⟨gb252, 2, none⟩) (Kd.R_far (p := ⟨gb252, 1, none⟩) (Kd.R_far (p := ⟨gb252, 0, none⟩) (Kd.R_types HO229.out BK252.out (by decide)) (fun _ hk => hk.2) (.int .i64 t246)) (fun _ hk => hk.2) (.int .i64 t247)) (fun _ hk => hk.2) (.slice Ao48 t248.length co48)) (fun _ h_ => h_.1)))); (case side2 => exact (Kd.R_reads' HO229.out).2.1); (case side3 => refine (Kd.R_reads' (e := 5) (base := w.heap.size) (ok := fun k_ => (((True ∧ some k_ ≠ (.slice Ao24 t227.length co24 : Value).ownBlock) ∧ some k_ ≠ (.slice Ao39 t241.length co39 : Value).ownBlock) ∧ some k_ ≠ (.slice Ao48 t248.length co48 : Value).ownBlock)) (n := t234.length) (c := co31) ?_).2.2; exact (by (with_reducible repeat (first | apply Kd.R_alloc | apply Kd.R_drewN | apply Kd.R_drew)); exact (Kd.R_mono (Kd.R_far (p := ⟨gb252, 2, none⟩) (Kd.R_far (p := ⟨gb252, 1, none⟩) (Kd.R_far (p := ⟨gb252, 0, none⟩) (Kd.R_types HO236.out BK252.out (by decide)) (fun _ hk => hk.2) (.int .i64 t246)) (fun _ hk => hk.2) (.int .i64 t247)) (fun _ hk => hk.2) (.slice Ao48 t248.length co48)) (fun _ h_ => h_.1)))); (case side4 => exact (Kd.R_reads' HO236.out).2.1); rintro e w79 ⟨rfl, hb⟩; have n0_ := Aside0.mk (Kd.R_below (by (with_reducible repeat (first | apply Kd.R_alloc | apply Kd.R_drewN | apply Kd.R_drew)); exact (Kd.R_mono (Kd.R_far (p := ⟨gb252, 2, none⟩) (Kd.R_far (p := ⟨gb252, 1, none⟩) (Kd.R_far (p := ⟨gb252, 0, none⟩) (Kd.R_types HO229.out BK252.out (by decide)) (fun _ hk => hk.2) (.int .i64 t246)) (fun _ hk => hk.2) (.int .i64 t247)) (fun _ hk => hk.2) (.slice Ao48 t248.length co48)) (fun _ h_ => h_.1))) hb); have n1_ := Aside0.mk (Kd.R_below (by (with_reducible repeat (first | apply Kd.R_alloc | apply Kd.R_drewN | apply Kd.R_drew)); exact (Kd.R_mono (Kd.R_far (p := ⟨gb252, 2, none⟩) (Kd.R_far (p := ⟨gb252, 1, none⟩) (Kd.R_far (p := ⟨gb252, 0, none⟩) (Kd.R_types HO236.out BK252.out (by decide)) (fun _ hk => hk.2) (.int .i64 t246)) (fun _ hk => hk.2) (.int .i64 t247)) (fun _ hk => hk.2) (.slice Ao48 t248.length co48)) (fun _ h_ => h_.1))) hb); have n2_ := Aside0.mk (Kd.R_below (by (with_reducible repeat (first | apply Kd.R_alloc | apply Kd.R_drewN | apply Kd.R_drew)); exact (Kd.R_mono (Kd.R_far (p := ⟨gb252, 2, none⟩) (Kd.R_far (p := ⟨gb252, 1, none⟩) (Kd.R_far (p := ⟨gb252, 0, none⟩) (Kd.R_types HO243.out BK252.out (by decide)) (fun _ hk => hk.2) (.int .i64 t246)) (fun _ hk => hk.2) (.int .i64 t247)) (fun _ hk => hk.2) (.slice Ao48 t248.length co48)) (fun _ h_ => h_.1))) hb); have n3_ := Aside0.mk (Kd.R_below (by (with_reducible repeat (first | apply Kd.R_alloc | apply Kd.R_drewN | apply Kd.R_drew)); exact (Kd.R_mono (Kd.R_far (p := ⟨gb252, 2, none⟩) (Kd.R_far (p := ⟨gb252, 1, none⟩) (Kd.R_far (p := ⟨gb252, 0, none⟩) (Kd.R_types HO250.out BK252.out (by decide)) (fun _ hk => hk.2) (.int .i64 t246)) (fun _ hk => hk.2) (.int .i64 t247)) (fun _ hk => hk.2) (.slice Ao48 t248.length co48)) (fun _ h_ => h_.1))) hb); have n4_ := Aside0.mk (blk_below (g := gb222) (o := .cells #[.int .i64 a0_0, .int .i64 a0_1, .slice A0_2 l0_2.length c0_2] 31 (0, 0)) (by (with_reducible repeat (first | refine blk_drewN ?_ _ | refine blk_drew ?_ | refine blk_alloc ?_ _)); refine blk_far ?_ NB222_252.out _; (with_reducible repeat (first | refine blk_drewN ?_ _ | refine blk_drew ?_ | refine blk_alloc ?_ _)); refine blk_far ?_ NB222_252.out _; (with_reducible repeat (first | refine blk_drewN ?_ _ | refine blk_drew ?_ | refine blk_alloc ?_ _)); refine blk_far ?_ NB222_252.out _; (with_reducible repeat (first | refine blk_drewN ?_ _ | refine blk_drew ?_ | refine blk_alloc ?_ _)); exact BK222.out) hb); have n5_ := Aside0.mk (blk_below (g := gb231) (o := .cells #[.int .i64 t225, .int .i64 t226, .slice Ao24 t227.length co24] 31 (0, 0)) (by (with_reducible repeat (first | refine blk_drewN ?_ _ | refine blk_drew ?_ | refine blk_alloc ?_ _)); refine blk_far ?_ NB231_252.out _; (with_reducible repeat (first | refine blk_drewN ?_ _ | refine blk_drew ?_ | refine blk_alloc ?_ _)); refine blk_far ?_ NB231_252.out _; (with_reducible repeat (first | refine blk_drewN ?_ _ | refine blk_drew ?_ | refine blk_alloc ?_ _)); refine blk_far ?_ NB231_252.out _; (with_reducible repeat (first | refine blk_drewN ?_ _ | refine blk_drew ?_ | refine blk_alloc ?_ _)); exact BK231.out) hb); have n6_ := Aside0.mk (blk_below (g := gb238) (o := .cells #[.int .i64 t232, .int .i64 t233, .slice Ao31 t234.length co31] 31 (0, 0)) (by (with_reducible repeat (first | refine blk_drewN ?_ _ | refine blk_drew ?_ | refine blk_alloc ?_ _)); refine blk_far ?_ NB238_252.out _; (with_reducible repeat (first | refine blk_drewN ?_ _ | refine blk_drew ?_ | refine blk_alloc ?_ _)); refine blk_far ?_ NB238_252.out _; (with_reducible repeat (first | refine blk_drewN ?_ _ | refine blk_drew ?_ | refine blk_alloc ?_ _)); refine blk_far ?_ NB238_252.out _; (with_reducible repeat (first | refine blk_drewN ?_ _ | refine blk_drew ?_ | refine blk_alloc ?_ _)); exact BK238.out) hb); have n7_ := Aside0.mk (blk_below (g := gb245) (o := .cells #[.int .i64 t239, .int .i64 t240, .slice Ao39 t241.length co39] 31 (0, 0)) (by (with_reducible repeat (first | refine blk_drewN ?_ _ | refine blk_drew ?_ | refine blk_alloc ?_ _)); refine blk_far ?_ NB245_252.out _; (with_reducible repeat (first | refine blk_drewN ?_ _ | refine blk_drew ?_ | refine blk_alloc ?_ _)); refine blk_far ?_ NB245_252.out _; (with_reducible repeat (first | refine blk_drewN ?_ _ | refine blk_drew ?_ | refine blk_alloc ?_ _)); refine blk_far ?_ NB245_252.out _; (with_reducible repeat (first | refine blk_drewN ?_ _ | refine blk_drew ?_ | refine blk_alloc ?_ _)); exact BK245.out) hb); have n8_ := Aside0.mk (blk_below (g := gb252) (o := .cells #[.int .i64 t246, .int .i64 t247, .slice Ao48 t248.length co48] 31 (0, 0)) (by (with_reducible repeat (first | refine blk_drewN ?_ _ | refine blk_drew ?_ | refine blk_alloc ?_ _)); refine blk_put (cs := #[.int .i64 t246, .int .i64 t247, .slice none 0 0]) ?_ 2 _ rfl; (with_reducible repeat (first | refine blk_drewN ?_ _ | refine blk_drew ?_ | refine blk_alloc ?_ _)); refine blk_put (cs := #[.int .i64 t246, .int .i64 0, .slice none 0 0]) ?_ 1 _ rfl; (with_reducible repeat (first | refine blk_drewN ?_ _ | refine blk_drew ?_ | refine blk_alloc ?_ _)); refine blk_put (cs := #[.int .i64 0, .int .i64 0, .slice none 0 0]) ?_ 0 _ rfl; (with_reducible repeat (first | refine blk_drewN ?_ _ | refine blk_drew ?_ | refine blk_alloc ?_ _)); exact BK252.out) hb); have n9_ := Aside0.mk (below_step (by repeat (first | (with_reducible first | exact HB.out | apply below_alloc | apply pw_below_drewN | apply below_drew1 | refine below_set ?_ GE222.out | refine below_set ?_ GE231.out | refine below_set ?_ GE238.out | refine below_set ?_ GE245.out | refine below_set ?_ GE252.out) | exact HB.out)) hb); clear HO229; clear HO236; clear HO243; clear HO250; clear BK222; clear BK231; clear BK238; clear BK245; clear BK252; clear HB; have HO229 := n0_; have HO236 := n1_; have HO243 := n2_; have HO250 := n3_; have BK222 := n4_; have BK231 := n5_; have BK238 := n6_; have BK245 := n7_; have BK252 := n8_; have HB := n9_; clear n0_ n1_ n2_ n3_ n4_ n5_ n6_ n7_ n8_ n9_; (try clear hb); (try clear hb2); (try clear hk); (try clear hi)))
            go_meet
            case rel => exact ⟨_, (true), (by first | rfl | (simp; done) | (simp [*]; done)), H', ⟨by first | omega | exact Nat.le_refl _⟩, ⟨by (with_reducible repeat (first | apply Kd.R_alloc | apply Kd.R_drewN | apply Kd.R_drew)); exact Kd.R_mono HO229.out (fun _ hk => ⟨hk.1.1.2, ⟨hk.1.2, hk.2⟩⟩)⟩, ⟨by (with_reducible repeat (first | apply Kd.R_alloc | apply Kd.R_drewN | apply Kd.R_drew)); exact Kd.R_mono HO236.out (fun _ hk => ⟨hk.1.1.2, ⟨hk.1.2, hk.2⟩⟩)⟩, ⟨by (with_reducible repeat (first | apply Kd.R_alloc | apply Kd.R_drewN | apply Kd.R_drew)); exact Kd.R_mono HO243.out (fun _ hk => ⟨hk.1.1.2, ⟨hk.1.2, hk.2⟩⟩)⟩, ⟨by (with_reducible repeat (first | apply Kd.R_alloc | apply Kd.R_drewN | apply Kd.R_drew)); exact Kd.R_mono HO250.out (fun _ hk => ⟨hk.1.1.2, ⟨hk.1.2, hk.2⟩⟩)⟩, ⟨by (with_reducible repeat (first | refine blk_drewN ?_ _ | refine blk_drew ?_ | refine blk_alloc ?_ _)); exact BK222.out⟩, ⟨by (with_reducible repeat (first | refine blk_drewN ?_ _ | refine blk_drew ?_ | refine blk_alloc ?_ _)); exact BK231.out⟩, ⟨by (with_reducible repeat (first | refine blk_drewN ?_ _ | refine blk_drew ?_ | refine blk_alloc ?_ _)); exact BK238.out⟩, ⟨by (with_reducible repeat (first | refine blk_drewN ?_ _ | refine blk_drew ?_ | refine blk_alloc ?_ _)); exact BK245.out⟩, ⟨by (with_reducible repeat (first | refine blk_drewN ?_ _ | refine blk_drew ?_ | refine blk_alloc ?_ _)); exact BK252.out⟩, ⟨by repeat (first | (with_reducible first | exact HB.out | apply below_alloc | apply pw_below_drewN | apply below_drew1 | refine below_set ?_ GE222.out | refine below_set ?_ GE231.out | refine below_set ?_ GE238.out | refine below_set ?_ GE245.out | refine below_set ?_ GE252.out) | exact HB.out)⟩⟩
        · rw [if_neg c50] at H
          have c50b0 : (t244 == t251) = false := beq_eq_false_iff_ne.mpr c50
          have c50b1 : (t244 != t251) = true := bne_iff_ne.mpr c50
          have H' := Aside0.mk H
          clear H
          go_wp2
          go_meet
          case rel => exact ⟨_, (true), (by first | rfl | (simp; done) | (simp [*]; done)), H', ⟨by first | omega | exact Nat.le_refl _⟩, ⟨by (with_reducible repeat (first | apply Kd.R_alloc | apply Kd.R_drewN | apply Kd.R_drew)); exact Kd.R_mono (Kd.R_far (p := ⟨gb252, 2, none⟩) (Kd.R_far (p := ⟨gb252, 1, none⟩) (Kd.R_far (p := ⟨gb252, 0, none⟩) (Kd.R_types HO229.out BK252.out (by decide)) (fun _ hk => hk.2) (.int .i64 t246)) (fun _ hk => hk.2) (.int .i64 t247)) (fun _ hk => hk.2) (.slice Ao48 t248.length co48)) (fun _ hk => ⟨hk.1.1.1.2, ⟨hk.1.1.2, hk.1.2⟩⟩)⟩, ⟨by (with_reducible repeat (first | apply Kd.R_alloc | apply Kd.R_drewN | apply Kd.R_drew)); exact Kd.R_mono (Kd.R_far (p := ⟨gb252, 2, none⟩) (Kd.R_far (p := ⟨gb252, 1, none⟩) (Kd.R_far (p := ⟨gb252, 0, none⟩) (Kd.R_types HO236.out BK252.out (by decide)) (fun _ hk => hk.2) (.int .i64 t246)) (fun _ hk => hk.2) (.int .i64 t247)) (fun _ hk => hk.2) (.slice Ao48 t248.length co48)) (fun _ hk => ⟨hk.1.1.1.2, ⟨hk.1.1.2, hk.1.2⟩⟩)⟩, ⟨by (with_reducible repeat (first | apply Kd.R_alloc | apply Kd.R_drewN | apply Kd.R_drew)); exact Kd.R_mono (Kd.R_far (p := ⟨gb252, 2, none⟩) (Kd.R_far (p := ⟨gb252, 1, none⟩) (Kd.R_far (p := ⟨gb252, 0, none⟩) (Kd.R_types HO243.out BK252.out (by decide)) (fun _ hk => hk.2) (.int .i64 t246)) (fun _ hk => hk.2) (.int .i64 t247)) (fun _ hk => hk.2) (.slice Ao48 t248.length co48)) (fun _ hk => ⟨hk.1.1.1.2, ⟨hk.1.1.2, hk.1.2⟩⟩)⟩, ⟨by (with_reducible repeat (first | apply Kd.R_alloc | apply Kd.R_drewN | apply Kd.R_drew)); exact Kd.R_mono (Kd.R_far (p := ⟨gb252, 2, none⟩) (Kd.R_far (p := ⟨gb252, 1, none⟩) (Kd.R_far (p := ⟨gb252, 0, none⟩) (Kd.R_types HO250.out BK252.out (by decide)) (fun _ hk => hk.2) (.int .i64 t246)) (fun _ hk => hk.2) (.int .i64 t247)) (fun _ hk => hk.2) (.slice Ao48 t248.length co48)) (fun _ hk => ⟨hk.1.1.1.2, ⟨hk.1.1.2, hk.1.2⟩⟩)⟩, ⟨by (with_reducible repeat (first | refine blk_drewN ?_ _ | refine blk_drew ?_ | refine blk_alloc ?_ _)); refine blk_far ?_ NB222_252.out _; (with_reducible repeat (first | refine blk_drewN ?_ _ | refine blk_drew ?_ | refine blk_alloc ?_ _)); refine blk_far ?_ NB222_252.out _; (with_reducible repeat (first | refine blk_drewN ?_ _ | refine blk_drew ?_ | refine blk_alloc ?_ _)); refine blk_far ?_ NB222_252.out _; (with_reducible repeat (first | refine blk_drewN ?_ _ | refine blk_drew ?_ | refine blk_alloc ?_ _)); exact BK222.out⟩, ⟨by (with_reducible repeat (first | refine blk_drewN ?_ _ | refine blk_drew ?_ | refine blk_alloc ?_ _)); refine blk_far ?_ NB231_252.out _; (with_reducible repeat (first | refine blk_drewN ?_ _ | refine blk_drew ?_ | refine blk_alloc ?_ _)); refine blk_far ?_ NB231_252.out _; (with_reducible repeat (first | refine blk_drewN ?_ _ | refine blk_drew ?_ | refine blk_alloc ?_ _)); refine blk_far ?_ NB231_252.out _; (with_reducible repeat (first | refine blk_drewN ?_ _ | refine blk_drew ?_ | refine blk_alloc ?_ _)); exact BK231.out⟩, ⟨by (with_reducible repeat (first | refine blk_drewN ?_ _ | refine blk_drew ?_ | refine blk_alloc ?_ _)); refine blk_far ?_ NB238_252.out _; (with_reducible repeat (first | refine blk_drewN ?_ _ | refine blk_drew ?_ | refine blk_alloc ?_ _)); refine blk_far ?_ NB238_252.out _; (with_reducible repeat (first | refine blk_drewN ?_ _ | refine blk_drew ?_ | refine blk_alloc ?_ _)); refine blk_far ?_ NB238_252.out _; (with_reducible repeat (first | refine blk_drewN ?_ _ | refine blk_drew ?_ | refine blk_alloc ?_ _)); exact BK238.out⟩, ⟨by (with_reducible repeat (first | refine blk_drewN ?_ _ | refine blk_drew ?_ | refine blk_alloc ?_ _)); refine blk_far ?_ NB245_252.out _; (with_reducible repeat (first | refine blk_drewN ?_ _ | refine blk_drew ?_ | refine blk_alloc ?_ _)); refine blk_far ?_ NB245_252.out _; (with_reducible repeat (first | refine blk_drewN ?_ _ | refine blk_drew ?_ | refine blk_alloc ?_ _)); refine blk_far ?_ NB245_252.out _; (with_reducible repeat (first | refine blk_drewN ?_ _ | refine blk_drew ?_ | refine blk_alloc ?_ _)); exact BK245.out⟩, ⟨by (with_reducible repeat (first | refine blk_drewN ?_ _ | refine blk_drew ?_ | refine blk_alloc ?_ _)); refine blk_put (cs := #[.int .i64 t246, .int .i64 t247, .slice none 0 0]) ?_ 2 _ rfl; (with_reducible repeat (first | refine blk_drewN ?_ _ | refine blk_drew ?_ | refine blk_alloc ?_ _)); refine blk_put (cs := #[.int .i64 t246, .int .i64 0, .slice none 0 0]) ?_ 1 _ rfl; (with_reducible repeat (first | refine blk_drewN ?_ _ | refine blk_drew ?_ | refine blk_alloc ?_ _)); refine blk_put (cs := #[.int .i64 0, .int .i64 0, .slice none 0 0]) ?_ 0 _ rfl; (with_reducible repeat (first | refine blk_drewN ?_ _ | refine blk_drew ?_ | refine blk_alloc ?_ _)); exact BK252.out⟩, ⟨by repeat (first | (with_reducible first | exact HB.out | apply below_alloc | apply pw_below_drewN | apply below_drew1 | refine below_set ?_ GE222.out | refine below_set ?_ GE231.out | refine below_set ?_ GE238.out | refine below_set ?_ GE245.out | refine below_set ?_ GE252.out) | exact HB.out)⟩⟩
      · rw [if_neg c49] at H
        have c49b0 : (t230 == t237) = false := beq_eq_false_iff_ne.mpr c49
        have c49b1 : (t230 != t237) = true := bne_iff_ne.mpr c49
        (first | rw [c49b0] | (simp only [i64_w, i32_w]; rw [c49b0]) | skip)
        have H' := Aside0.mk H
        clear H
        go_wp2
        go_meet
        case rel => exact ⟨_, (true), (by first | rfl | (simp; done) | (simp [*]; done)), H', ⟨by first | omega | exact Nat.le_refl _⟩, ⟨by (with_reducible repeat (first | apply Kd.R_alloc | apply Kd.R_drewN | apply Kd.R_drew)); exact Kd.R_mono (Kd.R_far (p := ⟨gb252, 2, none⟩) (Kd.R_far (p := ⟨gb252, 1, none⟩) (Kd.R_far (p := ⟨gb252, 0, none⟩) (Kd.R_types HO229.out BK252.out (by decide)) (fun _ hk => hk.2) (.int .i64 t246)) (fun _ hk => hk.2) (.int .i64 t247)) (fun _ hk => hk.2) (.slice Ao48 t248.length co48)) (fun _ hk => ⟨hk.1.1.1.2, ⟨hk.1.1.2, hk.1.2⟩⟩)⟩, ⟨by (with_reducible repeat (first | apply Kd.R_alloc | apply Kd.R_drewN | apply Kd.R_drew)); exact Kd.R_mono (Kd.R_far (p := ⟨gb252, 2, none⟩) (Kd.R_far (p := ⟨gb252, 1, none⟩) (Kd.R_far (p := ⟨gb252, 0, none⟩) (Kd.R_types HO236.out BK252.out (by decide)) (fun _ hk => hk.2) (.int .i64 t246)) (fun _ hk => hk.2) (.int .i64 t247)) (fun _ hk => hk.2) (.slice Ao48 t248.length co48)) (fun _ hk => ⟨hk.1.1.1.2, ⟨hk.1.1.2, hk.1.2⟩⟩)⟩, ⟨by (with_reducible repeat (first | apply Kd.R_alloc | apply Kd.R_drewN | apply Kd.R_drew)); exact Kd.R_mono (Kd.R_far (p := ⟨gb252, 2, none⟩) (Kd.R_far (p := ⟨gb252, 1, none⟩) (Kd.R_far (p := ⟨gb252, 0, none⟩) (Kd.R_types HO243.out BK252.out (by decide)) (fun _ hk => hk.2) (.int .i64 t246)) (fun _ hk => hk.2) (.int .i64 t247)) (fun _ hk => hk.2) (.slice Ao48 t248.length co48)) (fun _ hk => ⟨hk.1.1.1.2, ⟨hk.1.1.2, hk.1.2⟩⟩)⟩, ⟨by (with_reducible repeat (first | apply Kd.R_alloc | apply Kd.R_drewN | apply Kd.R_drew)); exact Kd.R_mono (Kd.R_far (p := ⟨gb252, 2, none⟩) (Kd.R_far (p := ⟨gb252, 1, none⟩) (Kd.R_far (p := ⟨gb252, 0, none⟩) (Kd.R_types HO250.out BK252.out (by decide)) (fun _ hk => hk.2) (.int .i64 t246)) (fun _ hk => hk.2) (.int .i64 t247)) (fun _ hk => hk.2) (.slice Ao48 t248.length co48)) (fun _ hk => ⟨hk.1.1.1.2, ⟨hk.1.1.2, hk.1.2⟩⟩)⟩, ⟨by (with_reducible repeat (first | refine blk_drewN ?_ _ | refine blk_drew ?_ | refine blk_alloc ?_ _)); refine blk_far ?_ NB222_252.out _; (with_reducible repeat (first | refine blk_drewN ?_ _ | refine blk_drew ?_ | refine blk_alloc ?_ _)); refine blk_far ?_ NB222_252.out _; (with_reducible repeat (first | refine blk_drewN ?_ _ | refine blk_drew ?_ | refine blk_alloc ?_ _)); refine blk_far ?_ NB222_252.out _; (with_reducible repeat (first | refine blk_drewN ?_ _ | refine blk_drew ?_ | refine blk_alloc ?_ _)); exact BK222.out⟩, ⟨by (with_reducible repeat (first | refine blk_drewN ?_ _ | refine blk_drew ?_ | refine blk_alloc ?_ _)); refine blk_far ?_ NB231_252.out _; (with_reducible repeat (first | refine blk_drewN ?_ _ | refine blk_drew ?_ | refine blk_alloc ?_ _)); refine blk_far ?_ NB231_252.out _; (with_reducible repeat (first | refine blk_drewN ?_ _ | refine blk_drew ?_ | refine blk_alloc ?_ _)); refine blk_far ?_ NB231_252.out _; (with_reducible repeat (first | refine blk_drewN ?_ _ | refine blk_drew ?_ | refine blk_alloc ?_ _)); exact BK231.out⟩, ⟨by (with_reducible repeat (first | refine blk_drewN ?_ _ | refine blk_drew ?_ | refine blk_alloc ?_ _)); refine blk_far ?_ NB238_252.out _; (with_reducible repeat (first | refine blk_drewN ?_ _ | refine blk_drew ?_ | refine blk_alloc ?_ _)); refine blk_far ?_ NB238_252.out _; (with_reducible repeat (first | refine blk_drewN ?_ _ | refine blk_drew ?_ | refine blk_alloc ?_ _)); refine blk_far ?_ NB238_252.out _; (with_reducible repeat (first | refine blk_drewN ?_ _ | refine blk_drew ?_ | refine blk_alloc ?_ _)); exact BK238.out⟩, ⟨by (with_reducible repeat (first | refine blk_drewN ?_ _ | refine blk_drew ?_ | refine blk_alloc ?_ _)); refine blk_far ?_ NB245_252.out _; (with_reducible repeat (first | refine blk_drewN ?_ _ | refine blk_drew ?_ | refine blk_alloc ?_ _)); refine blk_far ?_ NB245_252.out _; (with_reducible repeat (first | refine blk_drewN ?_ _ | refine blk_drew ?_ | refine blk_alloc ?_ _)); refine blk_far ?_ NB245_252.out _; (with_reducible repeat (first | refine blk_drewN ?_ _ | refine blk_drew ?_ | refine blk_alloc ?_ _)); exact BK245.out⟩, ⟨by (with_reducible repeat (first | refine blk_drewN ?_ _ | refine blk_drew ?_ | refine blk_alloc ?_ _)); refine blk_put (cs := #[.int .i64 t246, .int .i64 t247, .slice none 0 0]) ?_ 2 _ rfl; (with_reducible repeat (first | refine blk_drewN ?_ _ | refine blk_drew ?_ | refine blk_alloc ?_ _)); refine blk_put (cs := #[.int .i64 t246, .int .i64 0, .slice none 0 0]) ?_ 1 _ rfl; (with_reducible repeat (first | refine blk_drewN ?_ _ | refine blk_drew ?_ | refine blk_alloc ?_ _)); refine blk_put (cs := #[.int .i64 0, .int .i64 0, .slice none 0 0]) ?_ 0 _ rfl; (with_reducible repeat (first | refine blk_drewN ?_ _ | refine blk_drew ?_ | refine blk_alloc ?_ _)); exact BK252.out⟩, ⟨by repeat (first | (with_reducible first | exact HB.out | apply below_alloc | apply pw_below_drewN | apply below_drew1 | refine below_set ?_ GE222.out | refine below_set ?_ GE231.out | refine below_set ?_ GE238.out | refine below_set ?_ GE245.out | refine below_set ?_ GE252.out) | exact HB.out)⟩⟩
    case rest =>
      clear HC15
      try clear c1
      try clear c2
      try clear p2
      try clear c3
      try clear c4
      try clear c5
      try clear c6
      try clear c7
      try clear c14
      try clear c15
      try clear c21
      try clear c22
      try clear c23
      try clear c24
      try clear c28
      try clear c29
      try clear c35
      try clear c36
      try clear c37
      try clear c43
      try clear c44
      try clear c45
      try clear c46
      try clear c49
      try clear c49b0
      try clear c49b1
      try clear c50
      try clear c50b0
      try clear c50b1
      try clear c52
      try clear c54
      try clear c55
      try clear c56
      try clear c57
      try clear c59
      try clear c60
      try clear c61
      try clear c64
      try clear c65
      try clear c67
      try clear c70
      try clear c71
      try clear c72
      try clear c73
      try clear c75
      try clear c76
      try clear c77
      try clear hcz17_0
      try clear hcz17_1
      try clear hcz17_2
      try clear hcz19_0
      try clear hcz19_1
      try clear hcz19_2
      try clear hcz23_0
      try clear hcz23_1
      try clear hcz23_2
      try clear hcz25_0
      try clear hcz25_1
      try clear hcz25_2
      try clear hcz30_0
      try clear hcz30_1
      try clear hcz30_2
      try clear hcz32_0
      try clear hcz32_1
      try clear hcz32_2
      try clear hcz38_0
      try clear hcz38_1
      try clear hcz38_2
      try clear hcz40_0
      try clear hcz40_1
      try clear hcz40_2
      try clear hcz47_0
      try clear hcz47_1
      try clear hcz47_2
      try clear hcz58_0
      try clear hcz58_1
      try clear hcz58_2
      try clear hcz62_0
      try clear hcz62_1
      try clear hcz62_2
      try clear hcz66_0
      try clear hcz66_1
      try clear hcz66_2
      try clear hcz68_0
      try clear hcz68_1
      try clear hcz68_2
      try clear hcz74_0
      try clear hcz74_1
      try clear hcz74_2
      try clear hcz78_0
      try clear hcz78_1
      try clear hcz78_2
      try clear hcz8_0
      try clear hcz8_1
      try clear hcz8_2
      try clear hfz17_0
      try clear hfz17_1
      try clear hfz17_2
      try clear hfz19_0
      try clear hfz19_1
      try clear hfz19_2
      try clear hfz23_0
      try clear hfz23_1
      try clear hfz23_2
      try clear hfz25_0
      try clear hfz25_1
      try clear hfz25_2
      try clear hfz30_0
      try clear hfz30_1
      try clear hfz30_2
      try clear hfz32_0
      try clear hfz32_1
      try clear hfz32_2
      try clear hfz38_0
      try clear hfz38_1
      try clear hfz38_2
      try clear hfz40_0
      try clear hfz40_1
      try clear hfz40_2
      try clear hfz47_0
      try clear hfz47_1
      try clear hfz47_2
      try clear hfz58_0
      try clear hfz58_1
      try clear hfz58_2
      try clear hfz62_0
      try clear hfz62_1
      try clear hfz62_2
      try clear hfz66_0
      try clear hfz66_1
      try clear hfz66_2
      try clear hfz68_0
      try clear hfz68_1
      try clear hfz68_2
      try clear hfz74_0
      try clear hfz74_1
      try clear hfz74_2
      try clear hfz78_0
      try clear hfz78_1
      try clear hfz78_2
      try clear hfz8_0
      try clear hfz8_1
      try clear hfz8_2
      obtain ⟨kq, x66_14, rfl, HA, HJ14, HO_232002, HO_239002, HO_246002, HO_253002, BK222, BK231, BK238, BK245, BK252, HB⟩ := hcut
      cases kq with
      | zero => exact absurd HA.out (by simp [incunablelaw29_ScanRings.j0])
      | succ kj14 =>
        have H := HA.out
        clear HA
        simp only [incunablelaw29_ScanRings.j0] at H
        by_cases c80 : x66_14 = true
        · subst c80
          have H1 : (some false) = some r := by rw [if_pos rfl] at H; exact H
          clear H
          have H := H1
          clear H1
          exact absurd ((Option.some.inj H).trans HR_.out) (by decide)
        · replace c80 := Bool.eq_false_iff.mpr c80
          subst c80
          have H1 : (if t230 = 0 then ((scan_Ring.f kj14 t225 t226 t227 (wrap64 (-a1)) a2).bind fun bt256 => (if bt256.2.2.2 = 0 then ((incunableref05_Same.f bt256.1 bt256.2.1 bt256.2.2.1 a0_0 a0_1 l0_2).bind fun t263 => (if t263 = true then ((incunableref05_Blacks.f kj14 t225 t226 t227).bind fun t264 => ((incunableref05_Blacks.f kj14 a0_0 a0_1 l0_2).bind fun t265 => (if t264 = t265 then ((incunableref05_Blacks.f kj14 t239 t240 t241).bind fun t266 => ((incunableref05_Blacks.f kj14 a0_0 a0_1 l0_2).bind fun t267 => (if t266 = t267 then ((incunablelaw29_Sane.f kj14).bind fun t268 => (some t268)) else (some false)))) else (some false)))) else (some false))) else (some false))) else ((incunablelaw29_Sane.f kj14).bind fun t255 => (some t255))) = some r := by rw [if_neg (show ¬ (false = true) by decide)] at H; exact H
          clear H
          have H := H1
          clear H1
          by_cases c81 : t230 = 0
          · rw [if_pos c81] at H
            have c81b0 : (t230 == 0) = true := beq_iff_eq.mpr c81
            have c81b1 : (t230 != 0) = false := bne_eq_false_iff_eq.mpr c81
            clear c81
            replace H := Option.bind_eq_some_iff.mp H
            obtain ⟨⟨t256, t257, t258, t261⟩, A820, H⟩ := H
            replace H : (if t261 = 0 then ((incunableref05_Same.f t256 t257 t258 a0_0 a0_1 l0_2).bind fun t263 => (if t263 = true then ((incunableref05_Blacks.f kj14 t225 t226 t227).bind fun t264 => ((incunableref05_Blacks.f kj14 a0_0 a0_1 l0_2).bind fun t265 => (if t264 = t265 then ((incunableref05_Blacks.f kj14 t239 t240 t241).bind fun t266 => ((incunableref05_Blacks.f kj14 a0_0 a0_1 l0_2).bind fun t267 => (if t266 = t267 then ((incunablelaw29_Sane.f kj14).bind fun t268 => (some t268)) else (some false)))) else (some false)))) else (some false))) else (some false)) = some r := H
            have A82 := Aside0.mk A820
            clear A820
            by_cases c83 : t261 = 0
            · rw [if_pos c83] at H
              have c83b0 : (t261 == 0) = true := beq_iff_eq.mpr c83
              have c83b1 : (t261 != 0) = false := bne_eq_false_iff_eq.mpr c83
              clear c83
              replace H := Option.bind_eq_some_iff.mp H
              obtain ⟨t263, A840, H⟩ := H
              replace H : (if t263 = true then ((incunableref05_Blacks.f kj14 t225 t226 t227).bind fun t264 => ((incunableref05_Blacks.f kj14 a0_0 a0_1 l0_2).bind fun t265 => (if t264 = t265 then ((incunableref05_Blacks.f kj14 t239 t240 t241).bind fun t266 => ((incunableref05_Blacks.f kj14 a0_0 a0_1 l0_2).bind fun t267 => (if t266 = t267 then ((incunablelaw29_Sane.f kj14).bind fun t268 => (some t268)) else (some false)))) else (some false)))) else (some false)) = some r := H
              have A84 := Aside0.mk A840
              clear A840
              by_cases c85 : t263 = true
              · subst c85
                have H1 : ((incunableref05_Blacks.f kj14 t225 t226 t227).bind fun t264 => ((incunableref05_Blacks.f kj14 a0_0 a0_1 l0_2).bind fun t265 => (if t264 = t265 then ((incunableref05_Blacks.f kj14 t239 t240 t241).bind fun t266 => ((incunableref05_Blacks.f kj14 a0_0 a0_1 l0_2).bind fun t267 => (if t266 = t267 then ((incunablelaw29_Sane.f kj14).bind fun t268 => (some t268)) else (some false)))) else (some false)))) = some r := by rw [if_pos rfl] at H; exact H
                clear H
                have H := H1
                clear H1
                replace H := Option.bind_eq_some_iff.mp H
                obtain ⟨t264, A860, H⟩ := H
                replace H : ((incunableref05_Blacks.f kj14 a0_0 a0_1 l0_2).bind fun t265 => (if t264 = t265 then ((incunableref05_Blacks.f kj14 t239 t240 t241).bind fun t266 => ((incunableref05_Blacks.f kj14 a0_0 a0_1 l0_2).bind fun t267 => (if t266 = t267 then ((incunablelaw29_Sane.f kj14).bind fun t268 => (some t268)) else (some false)))) else (some false))) = some r := H
                have A86 := Aside0.mk A860
                clear A860
                replace H := Option.bind_eq_some_iff.mp H
                obtain ⟨t265, A870, H⟩ := H
                replace H : (if t264 = t265 then ((incunableref05_Blacks.f kj14 t239 t240 t241).bind fun t266 => ((incunableref05_Blacks.f kj14 a0_0 a0_1 l0_2).bind fun t267 => (if t266 = t267 then ((incunablelaw29_Sane.f kj14).bind fun t268 => (some t268)) else (some false)))) else (some false)) = some r := H
                have A87 := Aside0.mk A870
                clear A870
                by_cases c88 : t264 = t265
                · rw [if_pos c88] at H
                  have c88b0 : (t264 == t265) = true := beq_iff_eq.mpr c88
                  have c88b1 : (t264 != t265) = false := bne_eq_false_iff_eq.mpr c88
                  clear c88
                  replace H := Option.bind_eq_some_iff.mp H
                  obtain ⟨t266, A890, H⟩ := H
                  replace H : ((incunableref05_Blacks.f kj14 a0_0 a0_1 l0_2).bind fun t267 => (if t266 = t267 then ((incunablelaw29_Sane.f kj14).bind fun t268 => (some t268)) else (some false))) = some r := H
                  have A89 := Aside0.mk A890
                  clear A890
                  replace H := Option.bind_eq_some_iff.mp H
                  obtain ⟨t267, A900, H⟩ := H
                  replace H : (if t266 = t267 then ((incunablelaw29_Sane.f kj14).bind fun t268 => (some t268)) else (some false)) = some r := H
                  have A90 := Aside0.mk A900
                  clear A900
                  by_cases c91 : t266 = t267
                  · rw [if_pos c91] at H
                    have c91b0 : (t266 == t267) = true := beq_iff_eq.mpr c91
                    have c91b1 : (t266 != t267) = false := bne_eq_false_iff_eq.mpr c91
                    clear c91
                    replace H := Option.bind_eq_some_iff.mp H
                    obtain ⟨t268, A920, H⟩ := H
                    replace H : (some t268) = some r := H
                    have A92 := Aside0.mk A920
                    clear A920
                    obtain rfl := Option.some.inj H
                    have hnb93 := NB231_222.out
                    have hnc93 := NB222_231.out
                    have hnb94 := NB231_238.out
                    have hnc94 := NB238_231.out
                    have hnb95 := NB231_245.out
                    have hnc95 := NB245_231.out
                    have hnb96 := NB231_252.out
                    have hnc96 := NB252_231.out
                    have hcz97_0 : wc.cell? ⟨gb231, 0, none⟩ = some (.int .i64 t225) := (blk_cell BK231.out 0).trans rfl
                    have hcz97_1 : wc.cell? ⟨gb231, 1, none⟩ = some (.int .i64 t226) := (blk_cell BK231.out 1).trans rfl
                    have hcz97_2 : wc.cell? ⟨gb231, 2, none⟩ = some (.slice Ao24 t227.length co24) := (blk_cell BK231.out 2).trans rfl
                    have hfz97_0 := blk_frozen BK231.out 0
                    have hfz97_1 := blk_frozen BK231.out 1
                    have hfz97_2 := blk_frozen BK231.out 2
                    try go_wp2_with (first | ((with_reducible refine gate_callee (f := 21) rfl ?_); refine goesL_ (some 75) rfl rfl Try.func21 (by kernel_rfl) rfl #[.agg #[.int .i64 t225, .int .i64 t226, .slice Ao24 t227.length co24], .int .i64 (wrap64 (-a1)), .int .i64 a2] rfl (by (try simp only [List.map_toArray, List.map_cons, List.map_nil]); first | done | rfl | (simp only [List.length_drop, List.length_take]; rfl)) ?_; (with_reducible refine (scan_Ring.calls kj14 t225 t226 _ _ t227 (wrap64 (-a1)) a2 t256 t257 t258 t261 _ ?side1 ?side2 A82.out).mono ?_); (case side1 => repeat (first | exact (Kd.R_reads' HO_232002.out).2.2 | (with_reducible refine Kd.C_alloc ?_ _) | (with_reducible refine Kd.C_drewN ?_ _) | (with_reducible refine Kd.C_drew ?_))); (case side2 => exact (Kd.R_reads' HO_232002.out).2.1); rintro e w98 ⟨v259, rfl, ho0, hb⟩; refine ⟨_, rfl, ?_⟩; have n0_ := Aside0.mk (Kd.R_elder' (rU HO_232002.out) (Kd.R_base ho0) hb); have n1_ := Aside0.mk (Kd.R_elder' (rU HO_239002.out) (Kd.R_base ho0) hb); have n2_ := Aside0.mk (Kd.R_elder' (rU HO_246002.out) (Kd.R_base ho0) hb); have n3_ := Aside0.mk (Kd.R_elder' (rU HO_253002.out) (Kd.R_base ho0) hb); have n4_ := Aside0.mk (Kd.R_lower (Kd.R_new' (Kd.R_new' (Kd.R_new' (Kd.R_new' ho0 (Kd.R_lt (rU HO_232002.out))) (Kd.R_lt (rU HO_239002.out))) (Kd.R_lt (rU HO_246002.out))) (Kd.R_lt (rU HO_253002.out))) (below_size (by repeat (first | (with_reducible first | exact HB.out | apply below_alloc | apply pw_below_drewN | apply below_drew1 | refine below_set ?_ GE222.out | refine below_set ?_ GE231.out | refine below_set ?_ GE238.out | refine below_set ?_ GE245.out | refine below_set ?_ GE252.out) | exact HB.out)))); have n5_ := Aside0.mk (blk_below (bU BK222.out) hb); have n6_ := Aside0.mk (blk_below (bU BK231.out) hb); have n7_ := Aside0.mk (blk_below (bU BK238.out) hb); have n8_ := Aside0.mk (blk_below (bU BK245.out) hb); have n9_ := Aside0.mk (blk_below (bU BK252.out) hb); have n10_ := Aside0.mk (below_step (by repeat (first | (with_reducible first | exact HB.out | apply below_alloc | apply pw_below_drewN | apply below_drew1 | refine below_set ?_ GE222.out | refine below_set ?_ GE231.out | refine below_set ?_ GE238.out | refine below_set ?_ GE245.out | refine below_set ?_ GE252.out) | exact HB.out)) hb); clear HO_232002; clear HO_239002; clear HO_246002; clear HO_253002; clear BK222; clear BK231; clear BK238; clear BK245; clear BK252; clear HB; have HO_232002 := n0_; have HO_239002 := n1_; have HO_246002 := n2_; have HO_253002 := n3_; have HO260 := n4_; have BK222 := n5_; have BK231 := n6_; have BK238 := n7_; have BK245 := n8_; have BK252 := n9_; have HB := n10_; clear n0_ n1_ n2_ n3_ n4_ n5_ n6_ n7_ n8_ n9_ n10_; (try clear hb); (try clear hb2); (try clear hk); (try clear hi); (try clear ho0)) | ((with_reducible refine gate_dst (N := 15) rfl ?_); refine box_event ?hg (N := 15) ?hd (cs := #[.int .i64 0, .int .i64 0, .slice none 0 0]) (t := 31) ?hr ?_; (case hd => rfl); (case hg => rfl); (case hr => first | (go_simp; done) | (go_simp; rfl)); intro gb262 hg w99 hbox hb; have n0_ := Aside0.mk (Kd.R_below (rU HO_232002.out) hb); have n1_ := Aside0.mk (Kd.R_below (rU HO_239002.out) hb); have n2_ := Aside0.mk (Kd.R_below (rU HO_246002.out) hb); have n3_ := Aside0.mk (Kd.R_below (rU HO_253002.out) hb); have n4_ := Aside0.mk (Kd.R_below (rU HO260.out) hb); have n5_ := Aside0.mk (blk_below (bU BK222.out) hb); have n6_ := Aside0.mk (blk_below (bU BK231.out) hb); have n7_ := Aside0.mk (blk_below (bU BK238.out) hb); have n8_ := Aside0.mk (blk_below (bU BK245.out) hb); have n9_ := Aside0.mk (blk_below (bU BK252.out) hb); have n10_ := Aside0.mk (below_step (by repeat (first | (with_reducible first | exact HB.out | apply below_alloc | apply pw_below_drewN | apply below_drew1 | refine below_set ?_ GE222.out | refine below_set ?_ GE231.out | refine below_set ?_ GE238.out | refine below_set ?_ GE245.out | refine below_set ?_ GE252.out) | exact HB.out)) hb); have n11_ := Aside0.mk (hbox); have n12_ := Aside0.mk ((by rw [hg]; exact (below_size (by repeat (first | (with_reducible first | exact HB.out | apply below_alloc | apply pw_below_drewN | apply below_drew1 | refine below_set ?_ GE222.out | refine below_set ?_ GE231.out | refine below_set ?_ GE238.out | refine below_set ?_ GE245.out | refine below_set ?_ GE252.out) | exact HB.out))) : w.heap.size ≤ gb262)); have n13_ := Aside0.mk ((by rw [hg]; exact (below_size (by repeat (first | (with_reducible first | exact HB.out | apply below_alloc | apply pw_below_drewN | apply below_drew1 | refine below_set ?_ GE222.out | refine below_set ?_ GE231.out | refine below_set ?_ GE238.out | refine below_set ?_ GE245.out | refine below_set ?_ GE252.out) | exact HB.out))) : w.heap.size ≤ gb262)); have n14_ := Aside0.mk ((by rw [hg]; exact Nat.ne_of_lt (blk_lt (bU BK222.out)) : gb222 ≠ gb262)); have n15_ := Aside0.mk ((by rw [hg]; exact Nat.ne_of_gt (blk_lt (bU BK222.out)) : gb262 ≠ gb222)); have n16_ := Aside0.mk ((by rw [hg]; exact Nat.ne_of_lt (blk_lt (bU BK231.out)) : gb231 ≠ gb262)); have n17_ := Aside0.mk ((by rw [hg]; exact Nat.ne_of_gt (blk_lt (bU BK231.out)) : gb262 ≠ gb231)); have n18_ := Aside0.mk ((by rw [hg]; exact Nat.ne_of_lt (blk_lt (bU BK238.out)) : gb238 ≠ gb262)); have n19_ := Aside0.mk ((by rw [hg]; exact Nat.ne_of_gt (blk_lt (bU BK238.out)) : gb262 ≠ gb238)); have n20_ := Aside0.mk ((by rw [hg]; exact Nat.ne_of_lt (blk_lt (bU BK245.out)) : gb245 ≠ gb262)); have n21_ := Aside0.mk ((by rw [hg]; exact Nat.ne_of_gt (blk_lt (bU BK245.out)) : gb262 ≠ gb245)); have n22_ := Aside0.mk ((by rw [hg]; exact Nat.ne_of_lt (blk_lt (bU BK252.out)) : gb252 ≠ gb262)); have n23_ := Aside0.mk ((by rw [hg]; exact Nat.ne_of_gt (blk_lt (bU BK252.out)) : gb262 ≠ gb252)); clear HO_232002; clear HO_239002; clear HO_246002; clear HO_253002; clear HO260; clear BK222; clear BK231; clear BK238; clear BK245; clear BK252; clear HB; have HO_232002 := n0_; have HO_239002 := n1_; have HO_246002 := n2_; have HO_253002 := n3_; have HO260 := n4_; have BK222 := n5_; have BK231 := n6_; have BK238 := n7_; have BK245 := n8_; have BK252 := n9_; have HB := n10_; have BK262 := n11_; have GW262 := n12_; have GE262 := n13_; have NB222_262 := n14_; have NB262_222 := n15_; have NB231_262 := n16_; have NB262_231 := n17_; have NB238_262 := n18_; have NB262_238 := n19_; have NB245_262 := n20_; have NB262_245 := n21_; have NB252_262 := n22_; have NB262_252 := n23_; clear n0_ n1_ n2_ n3_ n4_ n5_ n6_ n7_ n8_ n9_ n10_ n11_ n12_ n13_ n14_ n15_ n16_ n17_ n18_ n19_ n20_ n21_ n22_ n23_; clear hb hbox hg; have hnb100 := NB262_222.out; have hnc100 := NB222_262.out; have hnb101 := NB262_231.out; have hnc101 := NB231_262.out; have hnb102 := NB262_238.out; have hnc102 := NB238_262.out; have hnb103 := NB262_245.out; have hnc103 := NB245_262.out; have hnb104 := NB262_252.out; have hnc104 := NB252_262.out; have hcz105_0 : w99.cell? ⟨gb262, 0, none⟩ = some (.int .i64 0) := (blk_cell BK262.out 0).trans rfl; have hcz105_1 : w99.cell? ⟨gb262, 1, none⟩ = some (.int .i64 0) := (blk_cell BK262.out 1).trans rfl; have hcz105_2 : w99.cell? ⟨gb262, 2, none⟩ = some (.slice none 0 0) := (blk_cell BK262.out 2).trans rfl; have hfz105_0 := blk_frozen BK262.out 0; have hfz105_1 := blk_frozen BK262.out 1; have hfz105_2 := blk_frozen BK262.out 2; obtain ⟨Ao106, co106, eo106⟩ := Kd.R_slice HO260.out; subst eo106))
                    have n0_ : Aside0 (Kd.R (Kd.int .u8) 5 (((w99.setCell ⟨gb262, 0, none⟩ (.int .i64 t256)).setCell ⟨gb262, 1, none⟩ (.int .i64 t257)).setCell ⟨gb262, 2, none⟩ (.slice Ao106 t258.length co106)) w.heap.size (fun k_ => some k_ ≠ (.slice Ao31 t234.length co31 : Value).ownBlock ∧ some k_ ≠ (.slice Ao39 t241.length co39 : Value).ownBlock ∧ some k_ ≠ (.slice Ao48 t248.length co48 : Value).ownBlock ∧ some k_ ≠ (.slice Ao106 t258.length co106 : Value).ownBlock) (.slice Ao24 t227.length co24) t227) := ⟨by (with_reducible repeat (first | apply Kd.R_alloc | apply Kd.R_drewN | apply Kd.R_drew)); exact Kd.R_mono (Kd.R_far (p := ⟨gb262, 2, none⟩) (Kd.R_far (p := ⟨gb262, 1, none⟩) (Kd.R_far (p := ⟨gb262, 0, none⟩) (Kd.R_types HO_232002.out BK262.out (by decide)) (fun _ hk => hk.2) (.int .i64 t256)) (fun _ hk => hk.2) (.int .i64 t257)) (fun _ hk => hk.2) (.slice Ao106 t258.length co106)) (fun _ hk => ⟨hk.1.1.1, ⟨hk.1.1.2.1, ⟨hk.1.1.2.2, hk.1.2⟩⟩⟩)⟩
                    have n1_ : Aside0 (Kd.R (Kd.int .u8) 5 (((w99.setCell ⟨gb262, 0, none⟩ (.int .i64 t256)).setCell ⟨gb262, 1, none⟩ (.int .i64 t257)).setCell ⟨gb262, 2, none⟩ (.slice Ao106 t258.length co106)) w.heap.size (fun k_ => some k_ ≠ (.slice Ao24 t227.length co24 : Value).ownBlock ∧ some k_ ≠ (.slice Ao39 t241.length co39 : Value).ownBlock ∧ some k_ ≠ (.slice Ao48 t248.length co48 : Value).ownBlock ∧ some k_ ≠ (.slice Ao106 t258.length co106 : Value).ownBlock) (.slice Ao31 t234.length co31) t234) := ⟨by (with_reducible repeat (first | apply Kd.R_alloc | apply Kd.R_drewN | apply Kd.R_drew)); exact Kd.R_mono (Kd.R_far (p := ⟨gb262, 2, none⟩) (Kd.R_far (p := ⟨gb262, 1, none⟩) (Kd.R_far (p := ⟨gb262, 0, none⟩) (Kd.R_types HO_239002.out BK262.out (by decide)) (fun _ hk => hk.2) (.int .i64 t256)) (fun _ hk => hk.2) (.int .i64 t257)) (fun _ hk => hk.2) (.slice Ao106 t258.length co106)) (fun _ hk => ⟨hk.1.1.1, ⟨hk.1.1.2.1, ⟨hk.1.1.2.2, hk.1.2⟩⟩⟩)⟩
                    have n2_ : Aside0 (Kd.R (Kd.int .u8) 5 (((w99.setCell ⟨gb262, 0, none⟩ (.int .i64 t256)).setCell ⟨gb262, 1, none⟩ (.int .i64 t257)).setCell ⟨gb262, 2, none⟩ (.slice Ao106 t258.length co106)) w.heap.size (fun k_ => some k_ ≠ (.slice Ao24 t227.length co24 : Value).ownBlock ∧ some k_ ≠ (.slice Ao31 t234.length co31 : Value).ownBlock ∧ some k_ ≠ (.slice Ao48 t248.length co48 : Value).ownBlock ∧ some k_ ≠ (.slice Ao106 t258.length co106 : Value).ownBlock) (.slice Ao39 t241.length co39) t241) := ⟨by (with_reducible repeat (first | apply Kd.R_alloc | apply Kd.R_drewN | apply Kd.R_drew)); exact Kd.R_mono (Kd.R_far (p := ⟨gb262, 2, none⟩) (Kd.R_far (p := ⟨gb262, 1, none⟩) (Kd.R_far (p := ⟨gb262, 0, none⟩) (Kd.R_types HO_246002.out BK262.out (by decide)) (fun _ hk => hk.2) (.int .i64 t256)) (fun _ hk => hk.2) (.int .i64 t257)) (fun _ hk => hk.2) (.slice Ao106 t258.length co106)) (fun _ hk => ⟨hk.1.1.1, ⟨hk.1.1.2.1, ⟨hk.1.1.2.2, hk.1.2⟩⟩⟩)⟩
                    have n3_ : Aside0 (Kd.R (Kd.int .u8) 5 (((w99.setCell ⟨gb262, 0, none⟩ (.int .i64 t256)).setCell ⟨gb262, 1, none⟩ (.int .i64 t257)).setCell ⟨gb262, 2, none⟩ (.slice Ao106 t258.length co106)) w.heap.size (fun k_ => some k_ ≠ (.slice Ao24 t227.length co24 : Value).ownBlock ∧ some k_ ≠ (.slice Ao31 t234.length co31 : Value).ownBlock ∧ some k_ ≠ (.slice Ao39 t241.length co39 : Value).ownBlock ∧ some k_ ≠ (.slice Ao106 t258.length co106 : Value).ownBlock) (.slice Ao48 t248.length co48) t248) := ⟨by (with_reducible repeat (first | apply Kd.R_alloc | apply Kd.R_drewN | apply Kd.R_drew)); exact Kd.R_mono (Kd.R_far (p := ⟨gb262, 2, none⟩) (Kd.R_far (p := ⟨gb262, 1, none⟩) (Kd.R_far (p := ⟨gb262, 0, none⟩) (Kd.R_types HO_253002.out BK262.out (by decide)) (fun _ hk => hk.2) (.int .i64 t256)) (fun _ hk => hk.2) (.int .i64 t257)) (fun _ hk => hk.2) (.slice Ao106 t258.length co106)) (fun _ hk => ⟨hk.1.1.1, ⟨hk.1.1.2.1, ⟨hk.1.1.2.2, hk.1.2⟩⟩⟩)⟩
                    have n4_ : Aside0 (Kd.R (Kd.int .u8) 5 (((w99.setCell ⟨gb262, 0, none⟩ (.int .i64 t256)).setCell ⟨gb262, 1, none⟩ (.int .i64 t257)).setCell ⟨gb262, 2, none⟩ (.slice Ao106 t258.length co106)) w.heap.size (fun k_ => some k_ ≠ (.slice Ao24 t227.length co24 : Value).ownBlock ∧ some k_ ≠ (.slice Ao31 t234.length co31 : Value).ownBlock ∧ some k_ ≠ (.slice Ao39 t241.length co39 : Value).ownBlock ∧ some k_ ≠ (.slice Ao48 t248.length co48 : Value).ownBlock) (.slice Ao106 t258.length co106) t258) := ⟨by (with_reducible repeat (first | apply Kd.R_alloc | apply Kd.R_drewN | apply Kd.R_drew)); exact Kd.R_mono (Kd.R_far (p := ⟨gb262, 2, none⟩) (Kd.R_far (p := ⟨gb262, 1, none⟩) (Kd.R_far (p := ⟨gb262, 0, none⟩) (Kd.R_types HO260.out BK262.out (by decide)) (fun _ hk => hk.2) (.int .i64 t256)) (fun _ hk => hk.2) (.int .i64 t257)) (fun _ hk => hk.2) (.slice Ao106 t258.length co106)) (fun _ hk => ⟨hk.1.1.1.1.2, ⟨hk.1.1.1.2, ⟨hk.1.1.2, hk.1.2⟩⟩⟩)⟩
                    have n5_ : Aside0 ((((w99.setCell ⟨gb262, 0, none⟩ (.int .i64 t256)).setCell ⟨gb262, 1, none⟩ (.int .i64 t257)).setCell ⟨gb262, 2, none⟩ (.slice Ao106 t258.length co106)).heap[gb222]? = some (.cells #[.int .i64 a0_0, .int .i64 a0_1, .slice A0_2 l0_2.length c0_2] 31 (0, 0))) := ⟨by (with_reducible repeat (first | refine blk_drewN ?_ _ | refine blk_drew ?_ | refine blk_alloc ?_ _)); refine blk_far ?_ NB222_262.out _; (with_reducible repeat (first | refine blk_drewN ?_ _ | refine blk_drew ?_ | refine blk_alloc ?_ _)); refine blk_far ?_ NB222_262.out _; (with_reducible repeat (first | refine blk_drewN ?_ _ | refine blk_drew ?_ | refine blk_alloc ?_ _)); refine blk_far ?_ NB222_262.out _; (with_reducible repeat (first | refine blk_drewN ?_ _ | refine blk_drew ?_ | refine blk_alloc ?_ _)); exact BK222.out⟩
                    have n6_ : Aside0 ((((w99.setCell ⟨gb262, 0, none⟩ (.int .i64 t256)).setCell ⟨gb262, 1, none⟩ (.int .i64 t257)).setCell ⟨gb262, 2, none⟩ (.slice Ao106 t258.length co106)).heap[gb231]? = some (.cells #[.int .i64 t225, .int .i64 t226, .slice Ao24 t227.length co24] 31 (0, 0))) := ⟨by (with_reducible repeat (first | refine blk_drewN ?_ _ | refine blk_drew ?_ | refine blk_alloc ?_ _)); refine blk_far ?_ NB231_262.out _; (with_reducible repeat (first | refine blk_drewN ?_ _ | refine blk_drew ?_ | refine blk_alloc ?_ _)); refine blk_far ?_ NB231_262.out _; (with_reducible repeat (first | refine blk_drewN ?_ _ | refine blk_drew ?_ | refine blk_alloc ?_ _)); refine blk_far ?_ NB231_262.out _; (with_reducible repeat (first | refine blk_drewN ?_ _ | refine blk_drew ?_ | refine blk_alloc ?_ _)); exact BK231.out⟩
                    have n7_ : Aside0 ((((w99.setCell ⟨gb262, 0, none⟩ (.int .i64 t256)).setCell ⟨gb262, 1, none⟩ (.int .i64 t257)).setCell ⟨gb262, 2, none⟩ (.slice Ao106 t258.length co106)).heap[gb238]? = some (.cells #[.int .i64 t232, .int .i64 t233, .slice Ao31 t234.length co31] 31 (0, 0))) := ⟨by (with_reducible repeat (first | refine blk_drewN ?_ _ | refine blk_drew ?_ | refine blk_alloc ?_ _)); refine blk_far ?_ NB238_262.out _; (with_reducible repeat (first | refine blk_drewN ?_ _ | refine blk_drew ?_ | refine blk_alloc ?_ _)); refine blk_far ?_ NB238_262.out _; (with_reducible repeat (first | refine blk_drewN ?_ _ | refine blk_drew ?_ | refine blk_alloc ?_ _)); refine blk_far ?_ NB238_262.out _; (with_reducible repeat (first | refine blk_drewN ?_ _ | refine blk_drew ?_ | refine blk_alloc ?_ _)); exact BK238.out⟩
                    have n8_ : Aside0 ((((w99.setCell ⟨gb262, 0, none⟩ (.int .i64 t256)).setCell ⟨gb262, 1, none⟩ (.int .i64 t257)).setCell ⟨gb262, 2, none⟩ (.slice Ao106 t258.length co106)).heap[gb245]? = some (.cells #[.int .i64 t239, .int .i64 t240, .slice Ao39 t241.length co39] 31 (0, 0))) := ⟨by (with_reducible repeat (first | refine blk_drewN ?_ _ | refine blk_drew ?_ | refine blk_alloc ?_ _)); refine blk_far ?_ NB245_262.out _; (with_reducible repeat (first | refine blk_drewN ?_ _ | refine blk_drew ?_ | refine blk_alloc ?_ _)); refine blk_far ?_ NB245_262.out _; (with_reducible repeat (first | refine blk_drewN ?_ _ | refine blk_drew ?_ | refine blk_alloc ?_ _)); refine blk_far ?_ NB245_262.out _; (with_reducible repeat (first | refine blk_drewN ?_ _ | refine blk_drew ?_ | refine blk_alloc ?_ _)); exact BK245.out⟩
                    have n9_ : Aside0 ((((w99.setCell ⟨gb262, 0, none⟩ (.int .i64 t256)).setCell ⟨gb262, 1, none⟩ (.int .i64 t257)).setCell ⟨gb262, 2, none⟩ (.slice Ao106 t258.length co106)).heap[gb252]? = some (.cells #[.int .i64 t246, .int .i64 t247, .slice Ao48 t248.length co48] 31 (0, 0))) := ⟨by (with_reducible repeat (first | refine blk_drewN ?_ _ | refine blk_drew ?_ | refine blk_alloc ?_ _)); refine blk_far ?_ NB252_262.out _; (with_reducible repeat (first | refine blk_drewN ?_ _ | refine blk_drew ?_ | refine blk_alloc ?_ _)); refine blk_far ?_ NB252_262.out _; (with_reducible repeat (first | refine blk_drewN ?_ _ | refine blk_drew ?_ | refine blk_alloc ?_ _)); refine blk_far ?_ NB252_262.out _; (with_reducible repeat (first | refine blk_drewN ?_ _ | refine blk_drew ?_ | refine blk_alloc ?_ _)); exact BK252.out⟩
                    have n10_ : Aside0 ((((w99.setCell ⟨gb262, 0, none⟩ (.int .i64 t256)).setCell ⟨gb262, 1, none⟩ (.int .i64 t257)).setCell ⟨gb262, 2, none⟩ (.slice Ao106 t258.length co106)).heap[gb262]? = some (.cells #[.int .i64 t256, .int .i64 t257, .slice Ao106 t258.length co106] 31 (0, 0))) := ⟨by (with_reducible repeat (first | refine blk_drewN ?_ _ | refine blk_drew ?_ | refine blk_alloc ?_ _)); refine blk_put (cs := #[.int .i64 t256, .int .i64 t257, .slice none 0 0]) ?_ 2 _ rfl; (with_reducible repeat (first | refine blk_drewN ?_ _ | refine blk_drew ?_ | refine blk_alloc ?_ _)); refine blk_put (cs := #[.int .i64 t256, .int .i64 0, .slice none 0 0]) ?_ 1 _ rfl; (with_reducible repeat (first | refine blk_drewN ?_ _ | refine blk_drew ?_ | refine blk_alloc ?_ _)); refine blk_put (cs := #[.int .i64 0, .int .i64 0, .slice none 0 0]) ?_ 0 _ rfl; (with_reducible repeat (first | refine blk_drewN ?_ _ | refine blk_drew ?_ | refine blk_alloc ?_ _)); exact BK262.out⟩
                    have n11_ : Aside0 (Below w.heap.size w (((w99.setCell ⟨gb262, 0, none⟩ (.int .i64 t256)).setCell ⟨gb262, 1, none⟩ (.int .i64 t257)).setCell ⟨gb262, 2, none⟩ (.slice Ao106 t258.length co106))) := ⟨by repeat (first | (with_reducible first | exact HB.out | apply below_alloc | apply pw_below_drewN | apply below_drew1 | refine below_set ?_ GE222.out | refine below_set ?_ GE231.out | refine below_set ?_ GE238.out | refine below_set ?_ GE245.out | refine below_set ?_ GE252.out | refine below_set ?_ GE262.out) | exact HB.out)⟩
                    (try clear HO_232002)
                    (try clear HO_239002)
                    (try clear HO_246002)
                    (try clear HO_253002)
                    (try clear HO260)
                    (try clear BK222)
                    (try clear BK231)
                    (try clear BK238)
                    (try clear BK245)
                    (try clear BK252)
                    (try clear BK262)
                    (try clear HB)
                    generalize (((w99.setCell ⟨gb262, 0, none⟩ (.int .i64 t256)).setCell ⟨gb262, 1, none⟩ (.int .i64 t257)).setCell ⟨gb262, 2, none⟩ (.slice Ao106 t258.length co106)) = w107 at n0_ n1_ n2_ n3_ n4_ n5_ n6_ n7_ n8_ n9_ n10_ n11_ ⊢
                    have HO_232002 := n0_
                    have HO_239002 := n1_
                    have HO_246002 := n2_
                    have HO_253002 := n3_
                    have HO260 := n4_
                    have BK222 := n5_
                    have BK231 := n6_
                    have BK238 := n7_
                    have BK245 := n8_
                    have BK252 := n9_
                    have BK262 := n10_
                    have HB := n11_
                    clear n0_ n1_ n2_ n3_ n4_ n5_ n6_ n7_ n8_ n9_ n10_ n11_
                    have n0_ := Aside0.mk (Kd.R_drew HO_232002.out)
                    have n1_ := Aside0.mk (Kd.R_drew HO_239002.out)
                    have n2_ := Aside0.mk (Kd.R_drew HO_246002.out)
                    have n3_ := Aside0.mk (Kd.R_drew HO_253002.out)
                    have n4_ := Aside0.mk (Kd.R_drew HO260.out)
                    have n5_ := Aside0.mk (blk_drew BK222.out)
                    have n6_ := Aside0.mk (blk_drew BK231.out)
                    have n7_ := Aside0.mk (blk_drew BK238.out)
                    have n8_ := Aside0.mk (blk_drew BK245.out)
                    have n9_ := Aside0.mk (blk_drew BK252.out)
                    have n10_ := Aside0.mk (blk_drew BK262.out)
                    have n11_ := Aside0.mk (below_drew1 HB.out)
                    clear HO_232002
                    clear HO_239002
                    clear HO_246002
                    clear HO_253002
                    clear HO260
                    clear BK222
                    clear BK231
                    clear BK238
                    clear BK245
                    clear BK252
                    clear BK262
                    clear HB
                    have HO_232002 := n0_
                    have HO_239002 := n1_
                    have HO_246002 := n2_
                    have HO_253002 := n3_
                    have HO260 := n4_
                    have BK222 := n5_
                    have BK231 := n6_
                    have BK238 := n7_
                    have BK245 := n8_
                    have BK252 := n9_
                    have BK262 := n10_
                    have HB := n11_
                    clear n0_ n1_ n2_ n3_ n4_ n5_ n6_ n7_ n8_ n9_ n10_ n11_
                    refine start_ (n := 25) (S := fun w' => w'.cell? ⟨gb262, 0, none⟩ = some (.int .i64 t256) ∧ w'.cell? ⟨gb262, 1, none⟩ = some (.int .i64 t257) ∧ w'.cell? ⟨gb262, 2, none⟩ = some (.slice Ao106 t258.length co106) ∧ w'.cell? ⟨gb222, 0, none⟩ = some (.int .i64 a0_0) ∧ w'.cell? ⟨gb222, 1, none⟩ = some (.int .i64 a0_1) ∧ w'.cell? ⟨gb222, 2, none⟩ = some (.slice A0_2 l0_2.length c0_2) ∧ w'.cell? ⟨gb231, 0, none⟩ = some (.int .i64 t225) ∧ w'.cell? ⟨gb231, 1, none⟩ = some (.int .i64 t226) ∧ w'.cell? ⟨gb231, 2, none⟩ = some (.slice Ao24 t227.length co24) ∧ w'.cell? ⟨gb245, 0, none⟩ = some (.int .i64 t239) ∧ w'.cell? ⟨gb245, 1, none⟩ = some (.int .i64 t240) ∧ w'.cell? ⟨gb245, 2, none⟩ = some (.slice Ao39 t241.length co39)) (ds := []) #[false, false, false, false, false, false, false, false, false, false, false, false, false, false, false, false, false, false, false, false, false, false, false, false, false] (by kernel_rfl) rfl rfl ⟨(blk_cell BK262.out 0).trans rfl, (blk_cell BK262.out 1).trans rfl, (blk_cell BK262.out 2).trans rfl, (blk_cell BK222.out 0).trans rfl, (blk_cell BK222.out 1).trans rfl, (blk_cell BK222.out 2).trans rfl, (blk_cell BK231.out 0).trans rfl, (blk_cell BK231.out 1).trans rfl, (blk_cell BK231.out 2).trans rfl, (blk_cell BK245.out 0).trans rfl, (blk_cell BK245.out 1).trans rfl, (blk_cell BK245.out 2).trans rfl⟩ (fun hHeld => ?_); refine with_tabW incunablelaw29_ScanRings.tab12 incunablelaw29_ScanRings.bits12 (fun HT_ HW_ => ?_)
                    generalize w107.drew = w108 at HO_232002 HO_239002 HO_246002 HO_253002 HO260 BK222 BK231 BK238 BK245 BK252 BK262 HB hHeld ⊢
                    refine pure_ (i := 0) (N := some 78) (v := ?_) (a' := ?_) #[true, false, false, false, false, false, false, false, false, false, false, false, false, false, false, false, false, false, false, false, false, false, false, false, false] rfl rfl (any_of HT_.out (by kernel_rfl)) (fun _ _ _ h => h) (Or.inl ⟨by rfl, ?_⟩) ?_ ?_
                    rotate_left
                    · intro w'
                      go_simp
                      with_reducible rfl
                    rotate_left
                    · simp only [Act.put, List.setIfInBounds_toArray, List.set_cons_zero, List.set_cons_succ, i64_w, i32_w]
                      rfl
                    refine pure_ (i := 1) (N := some 79) (v := ?_) (a' := ?_) #[true, true, false, false, false, false, false, false, false, false, false, false, false, false, false, false, false, false, false, false, false, false, false, false, false] rfl rfl (any_of HT_.out (by kernel_rfl)) (fun _ _ _ h => h) (Or.inl ⟨by rfl, ?_⟩) ?_ ?_
                    rotate_left
                    · intro w'
                      go_simp
                      with_reducible rfl
                    rotate_left
                    · simp only [Act.put, List.setIfInBounds_toArray, List.set_cons_zero, List.set_cons_succ, i64_w, i32_w]
                      rfl
                    refine pure_ (i := 2) (N := some 80) (v := ?_) (a' := ?_) #[true, true, true, false, false, false, false, false, false, false, false, false, false, false, false, false, false, false, false, false, false, false, false, false, false] rfl rfl (any_of HT_.out (by kernel_rfl)) (fun _ _ _ h => h) (Or.inl ⟨by rfl, ?_⟩) ?_ ?_
                    rotate_left
                    · intro w'
                      go_simp
                      with_reducible rfl
                    rotate_left
                    · simp only [Act.put, List.setIfInBounds_toArray, List.set_cons_zero, List.set_cons_succ, i64_w, i32_w]
                      rfl
                    refine take_ (i := 3) (N := some 81) (v := ?_) (a' := ?_) #[true, true, true, true, false, false, false, false, false, false, false, false, false, false, false, false, false, false, false, false, false, false, false, false, false] rfl rfl (take_ofW HT_.out HW_.out (by kernel_rfl)) (fun _ _ _ h => h) (Or.inl ⟨by rfl, ?_⟩) hHeld ?_ ?_
                    rotate_left
                    · rintro w' ⟨s0, s1, s2, s3, s4, s5, s6, s7, s8, s9, s10, s11⟩
                      go_simp
                      with_reducible rfl
                    rotate_left
                    · simp only [Act.put, List.setIfInBounds_toArray, List.set_cons_zero, List.set_cons_succ, i64_w, i32_w]
                      rfl
                    refine take_ (i := 4) (N := some 82) (v := ?_) (a' := ?_) #[true, true, true, true, true, false, false, false, false, false, false, false, false, false, false, false, false, false, false, false, false, false, false, false, false] rfl rfl (take_ofW HT_.out HW_.out (by kernel_rfl)) (fun _ _ _ h => h) (Or.inl ⟨by rfl, ?_⟩) hHeld ?_ ?_
                    rotate_left
                    · rintro w' ⟨s0, s1, s2, s3, s4, s5, s6, s7, s8, s9, s10, s11⟩
                      go_simp
                      with_reducible rfl
                    rotate_left
                    · simp only [Act.put, List.setIfInBounds_toArray, List.set_cons_zero, List.set_cons_succ, i64_w, i32_w]
                      rfl
                    refine one_ (i := 5) (N := some 83) #[true, true, true, true, true, true, false, false, false, false, false, false, false, false, false, false, false, false, false, false, false, false, false, false, false] rfl rfl (one_of HT_.out (by kernel_rfl)) (by decide) (fun K hK => ?_)
                    refine goes_ Try.func18 (by kernel_rfl) rfl #[.agg #[.int .i64 t256, .int .i64 t257, .slice Ao106 t258.length co106], .agg #[.int .i64 a0_0, .int .i64 a0_1, .slice A0_2 l0_2.length c0_2]] (by rfl) rfl rfl (by (try simp only [List.map_toArray, List.map_cons, List.map_nil]); first | done | rfl | (simp only [List.length_drop, List.length_take]; rfl)) ?_
                    with_reducible refine (incunableref05_Same.calls t256 t257 _ _ t258 a0_0 a0_1 _ _ l0_2 true _ ?side1 ?side2 ?side3 ?side4 A84.out).mono ?_
                    (case side1 => repeat (first | exact (Kd.R_reads' HO260.out).2.2 | (with_reducible refine Kd.C_alloc ?_ _) | (with_reducible refine Kd.C_drewN ?_ _) | (with_reducible refine Kd.C_drew ?_)))
                    (case side2 => exact (Kd.R_reads' HO260.out).2.1)
                    (case side3 => repeat (first | exact (Kd.C_below HR0_2.out HB.out) | (with_reducible refine Kd.C_alloc ?_ _) | (with_reducible refine Kd.C_drewN ?_ _) | (with_reducible refine Kd.C_drew ?_)))
                    (case side4 => exact HC0_2.out)
                    rintro e w109 ⟨rfl, hb⟩
                    refine ⟨_, rfl, ?_⟩
                    have n0_ := Aside0.mk (Kd.R_below (rU HO_232002.out) hb)
                    have n1_ := Aside0.mk (Kd.R_below (rU HO_239002.out) hb)
                    have n2_ := Aside0.mk (Kd.R_below (rU HO_246002.out) hb)
                    have n3_ := Aside0.mk (Kd.R_below (rU HO_253002.out) hb)
                    have n4_ := Aside0.mk (Kd.R_below (rU HO260.out) hb)
                    have n5_ := Aside0.mk (blk_below (bU BK222.out) hb)
                    have n6_ := Aside0.mk (blk_below (bU BK231.out) hb)
                    have n7_ := Aside0.mk (blk_below (bU BK238.out) hb)
                    have n8_ := Aside0.mk (blk_below (bU BK245.out) hb)
                    have n9_ := Aside0.mk (blk_below (bU BK252.out) hb)
                    have n10_ := Aside0.mk (blk_below (bU BK262.out) hb)
                    have n11_ := Aside0.mk (below_step (by repeat (first | (with_reducible first | exact HB.out | apply below_alloc | apply pw_below_drewN | apply below_drew1 | refine below_set ?_ GE222.out | refine below_set ?_ GE231.out | refine below_set ?_ GE238.out | refine below_set ?_ GE245.out | refine below_set ?_ GE252.out | refine below_set ?_ GE262.out) | exact HB.out)) hb)
                    clear HO_232002
                    clear HO_239002
                    clear HO_246002
                    clear HO_253002
                    clear HO260
                    clear BK222
                    clear BK231
                    clear BK238
                    clear BK245
                    clear BK252
                    clear BK262
                    clear HB
                    have HO_232002 := n0_
                    have HO_239002 := n1_
                    have HO_246002 := n2_
                    have HO_253002 := n3_
                    have HO260 := n4_
                    have BK222 := n5_
                    have BK231 := n6_
                    have BK238 := n7_
                    have BK245 := n8_
                    have BK252 := n9_
                    have BK262 := n10_
                    have HB := n11_
                    clear n0_ n1_ n2_ n3_ n4_ n5_ n6_ n7_ n8_ n9_ n10_ n11_
                    (try clear hb)
                    (try clear hb2)
                    (try clear hk)
                    (try clear hi)
                    refine hK.out _ _ ⟨(blk_cell BK262.out 0).trans rfl, (blk_cell BK262.out 1).trans rfl, (blk_cell BK262.out 2).trans rfl, (blk_cell BK222.out 0).trans rfl, (blk_cell BK222.out 1).trans rfl, (blk_cell BK222.out 2).trans rfl, (blk_cell BK231.out 0).trans rfl, (blk_cell BK231.out 1).trans rfl, (blk_cell BK231.out 2).trans rfl, (blk_cell BK245.out 0).trans rfl, (blk_cell BK245.out 1).trans rfl, (blk_cell BK245.out 2).trans rfl⟩ (fun hHeld => ?_)
                    clear hK K
                    refine norm_ (a' := ?_) ?_ ?_
                    rotate_left
                    · show Act.put _ (some 83) _ = _
                      simp only [Act.put, List.setIfInBounds_toArray, List.set_cons_zero, List.set_cons_succ, i64_w, i32_w]
                      rfl
                    refine pure_ (i := 6) (N := some 84) (v := ?_) (a' := ?_) #[true, true, true, true, true, true, true, false, false, false, false, false, false, false, false, false, false, false, false, false, false, false, false, false, false] rfl rfl (any_of HT_.out (by kernel_rfl)) (fun _ _ _ h => h) (Or.inl ⟨by rfl, ?_⟩) ?_ ?_
                    rotate_left
                    · intro w'
                      go_simp
                      with_reducible rfl
                    rotate_left
                    · simp only [Act.put, List.setIfInBounds_toArray, List.set_cons_zero, List.set_cons_succ, i64_w, i32_w]
                      rfl
                    refine pure_ (i := 7) (N := some 85) (v := ?_) (a' := ?_) #[true, true, true, true, true, true, true, true, false, false, false, false, false, false, false, false, false, false, false, false, false, false, false, false, false] rfl rfl (any_of HT_.out (by kernel_rfl)) (fun _ _ _ h => h) (Or.inl ⟨by rfl, ?_⟩) ?_ ?_
                    rotate_left
                    · intro w'
                      go_simp
                      with_reducible rfl
                    rotate_left
                    · simp only [Act.put, List.setIfInBounds_toArray, List.set_cons_zero, List.set_cons_succ, i64_w, i32_w]
                      rfl
                    refine take_ (i := 8) (N := some 86) (v := ?_) (a' := ?_) #[true, true, true, true, true, true, true, true, true, false, false, false, false, false, false, false, false, false, false, false, false, false, false, false, false] rfl rfl (take_ofW HT_.out HW_.out (by kernel_rfl)) (fun _ _ _ h => h) (Or.inl ⟨by rfl, ?_⟩) hHeld ?_ ?_
                    rotate_left
                    · rintro w' ⟨s0, s1, s2, s3, s4, s5, s6, s7, s8, s9, s10, s11⟩
                      go_simp
                      with_reducible rfl
                    rotate_left
                    · simp only [Act.put, List.setIfInBounds_toArray, List.set_cons_zero, List.set_cons_succ, i64_w, i32_w]
                      rfl
                    refine take_ (i := 10) (N := some 88) (v := ?_) (a' := ?_) #[true, true, true, true, true, true, true, true, true, false, true, false, false, false, false, false, false, false, false, false, false, false, false, false, false] rfl rfl (take_ofW HT_.out HW_.out (by kernel_rfl)) (fun _ _ _ h => h) (Or.inl ⟨by rfl, ?_⟩) hHeld ?_ ?_
                    rotate_left
                    · rintro w' ⟨s0, s1, s2, s3, s4, s5, s6, s7, s8, s9, s10, s11⟩
                      go_simp
                      with_reducible rfl
                    rotate_left
                    · simp only [Act.put, List.setIfInBounds_toArray, List.set_cons_zero, List.set_cons_succ, i64_w, i32_w]
                      rfl
                    refine one_ (i := 9) (N := some 87) #[true, true, true, true, true, true, true, true, true, true, true, false, false, false, false, false, false, false, false, false, false, false, false, false, false] rfl rfl (one_of HT_.out (by kernel_rfl)) (by decide) (fun K hK => ?_)
                    refine goes_ Try.func25 (by kernel_rfl) rfl #[.agg #[.int .i64 t225, .int .i64 t226, .slice Ao24 t227.length co24]] (by rfl) rfl rfl (by (try simp only [List.map_toArray, List.map_cons, List.map_nil]); first | done | rfl | (simp only [List.length_drop, List.length_take]; rfl)) ?_
                    with_reducible refine (incunableref05_Blacks.calls kj14 t225 t226 _ _ t227 t264 _ ?side1 ?side2 A86.out).mono ?_
                    (case side1 => repeat (first | exact (Kd.R_reads' HO_232002.out).2.2 | (with_reducible refine Kd.C_alloc ?_ _) | (with_reducible refine Kd.C_drewN ?_ _) | (with_reducible refine Kd.C_drew ?_)))
                    (case side2 => exact (Kd.R_reads' HO_232002.out).2.1)
                    rintro e w110 ⟨rfl, hb⟩
                    refine ⟨_, rfl, ?_⟩
                    have n0_ := Aside0.mk (Kd.R_below (rU HO_232002.out) hb)
                    have n1_ := Aside0.mk (Kd.R_below (rU HO_239002.out) hb)
                    have n2_ := Aside0.mk (Kd.R_below (rU HO_246002.out) hb)
                    have n3_ := Aside0.mk (Kd.R_below (rU HO_253002.out) hb)
                    have n4_ := Aside0.mk (Kd.R_below (rU HO260.out) hb)
                    have n5_ := Aside0.mk (blk_below (bU BK222.out) hb)
                    have n6_ := Aside0.mk (blk_below (bU BK231.out) hb)
                    have n7_ := Aside0.mk (blk_below (bU BK238.out) hb)
                    have n8_ := Aside0.mk (blk_below (bU BK245.out) hb)
                    have n9_ := Aside0.mk (blk_below (bU BK252.out) hb)
                    have n10_ := Aside0.mk (blk_below (bU BK262.out) hb)
                    have n11_ := Aside0.mk (below_step (by repeat (first | (with_reducible first | exact HB.out | apply below_alloc | apply pw_below_drewN | apply below_drew1 | refine below_set ?_ GE222.out | refine below_set ?_ GE231.out | refine below_set ?_ GE238.out | refine below_set ?_ GE245.out | refine below_set ?_ GE252.out | refine below_set ?_ GE262.out) | exact HB.out)) hb)
                    clear HO_232002
                    clear HO_239002
                    clear HO_246002
                    clear HO_253002
                    clear HO260
                    clear BK222
                    clear BK231
                    clear BK238
                    clear BK245
                    clear BK252
                    clear BK262
                    clear HB
                    have HO_232002 := n0_
                    have HO_239002 := n1_
                    have HO_246002 := n2_
                    have HO_253002 := n3_
                    have HO260 := n4_
                    have BK222 := n5_
                    have BK231 := n6_
                    have BK238 := n7_
                    have BK245 := n8_
                    have BK252 := n9_
                    have BK262 := n10_
                    have HB := n11_
                    clear n0_ n1_ n2_ n3_ n4_ n5_ n6_ n7_ n8_ n9_ n10_ n11_
                    (try clear hb)
                    (try clear hb2)
                    (try clear hk)
                    (try clear hi)
                    refine hK.out _ _ ⟨(blk_cell BK262.out 0).trans rfl, (blk_cell BK262.out 1).trans rfl, (blk_cell BK262.out 2).trans rfl, (blk_cell BK222.out 0).trans rfl, (blk_cell BK222.out 1).trans rfl, (blk_cell BK222.out 2).trans rfl, (blk_cell BK231.out 0).trans rfl, (blk_cell BK231.out 1).trans rfl, (blk_cell BK231.out 2).trans rfl, (blk_cell BK245.out 0).trans rfl, (blk_cell BK245.out 1).trans rfl, (blk_cell BK245.out 2).trans rfl⟩ (fun hHeld => ?_)
                    clear hK K
                    refine norm_ (a' := ?_) ?_ ?_
                    rotate_left
                    · show Act.put _ (some 87) _ = _
                      simp only [Act.put, List.setIfInBounds_toArray, List.set_cons_zero, List.set_cons_succ, i64_w, i32_w]
                      rfl
                    refine one_ (i := 11) (N := some 89) #[true, true, true, true, true, true, true, true, true, true, true, true, false, false, false, false, false, false, false, false, false, false, false, false, false] rfl rfl (one_of HT_.out (by kernel_rfl)) (by decide) (fun K hK => ?_)
                    refine goes_ Try.func25 (by kernel_rfl) rfl #[.agg #[.int .i64 a0_0, .int .i64 a0_1, .slice A0_2 l0_2.length c0_2]] (by rfl) rfl rfl (by (try simp only [List.map_toArray, List.map_cons, List.map_nil]); first | done | rfl | (simp only [List.length_drop, List.length_take]; rfl)) ?_
                    with_reducible refine (incunableref05_Blacks.calls kj14 a0_0 a0_1 _ _ l0_2 t265 _ ?side1 ?side2 A87.out).mono ?_
                    (case side1 => repeat (first | exact (Kd.C_below HR0_2.out HB.out) | (with_reducible refine Kd.C_alloc ?_ _) | (with_reducible refine Kd.C_drewN ?_ _) | (with_reducible refine Kd.C_drew ?_)))
                    (case side2 => exact HC0_2.out)
                    rintro e w111 ⟨rfl, hb⟩
                    refine ⟨_, rfl, ?_⟩
                    have n0_ := Aside0.mk (Kd.R_below (rU HO_232002.out) hb)
                    have n1_ := Aside0.mk (Kd.R_below (rU HO_239002.out) hb)
                    have n2_ := Aside0.mk (Kd.R_below (rU HO_246002.out) hb)
                    have n3_ := Aside0.mk (Kd.R_below (rU HO_253002.out) hb)
                    have n4_ := Aside0.mk (Kd.R_below (rU HO260.out) hb)
                    have n5_ := Aside0.mk (blk_below (bU BK222.out) hb)
                    have n6_ := Aside0.mk (blk_below (bU BK231.out) hb)
                    have n7_ := Aside0.mk (blk_below (bU BK238.out) hb)
                    have n8_ := Aside0.mk (blk_below (bU BK245.out) hb)
                    have n9_ := Aside0.mk (blk_below (bU BK252.out) hb)
                    have n10_ := Aside0.mk (blk_below (bU BK262.out) hb)
                    have n11_ := Aside0.mk (below_step (by repeat (first | (with_reducible first | exact HB.out | apply below_alloc | apply pw_below_drewN | apply below_drew1 | refine below_set ?_ GE222.out | refine below_set ?_ GE231.out | refine below_set ?_ GE238.out | refine below_set ?_ GE245.out | refine below_set ?_ GE252.out | refine below_set ?_ GE262.out) | exact HB.out)) hb)
                    clear HO_232002
                    clear HO_239002
                    clear HO_246002
                    clear HO_253002
                    clear HO260
                    clear BK222
                    clear BK231
                    clear BK238
                    clear BK245
                    clear BK252
                    clear BK262
                    clear HB
                    have HO_232002 := n0_
                    have HO_239002 := n1_
                    have HO_246002 := n2_
                    have HO_253002 := n3_
                    have HO260 := n4_
                    have BK222 := n5_
                    have BK231 := n6_
                    have BK238 := n7_
                    have BK245 := n8_
                    have BK252 := n9_
                    have BK262 := n10_
                    have HB := n11_
                    clear n0_ n1_ n2_ n3_ n4_ n5_ n6_ n7_ n8_ n9_ n10_ n11_
                    (try clear hb)
                    (try clear hb2)
                    (try clear hk)
                    (try clear hi)
                    refine hK.out _ _ ⟨(blk_cell BK262.out 0).trans rfl, (blk_cell BK262.out 1).trans rfl, (blk_cell BK262.out 2).trans rfl, (blk_cell BK222.out 0).trans rfl, (blk_cell BK222.out 1).trans rfl, (blk_cell BK222.out 2).trans rfl, (blk_cell BK231.out 0).trans rfl, (blk_cell BK231.out 1).trans rfl, (blk_cell BK231.out 2).trans rfl, (blk_cell BK245.out 0).trans rfl, (blk_cell BK245.out 1).trans rfl, (blk_cell BK245.out 2).trans rfl⟩ (fun hHeld => ?_)
                    clear hK K
                    refine norm_ (a' := ?_) ?_ ?_
                    rotate_left
                    · show Act.put _ (some 89) _ = _
                      simp only [Act.put, List.setIfInBounds_toArray, List.set_cons_zero, List.set_cons_succ, i64_w, i32_w]
                      rfl
                    refine pure_ (i := 12) (N := some 90) (v := ?_) (a' := ?_) #[true, true, true, true, true, true, true, true, true, true, true, true, true, false, false, false, false, false, false, false, false, false, false, false, false] rfl rfl (any_of HT_.out (by kernel_rfl)) (fun _ _ _ h => h) (Or.inl ⟨by rfl, ?_⟩) ?_ ?_
                    rotate_left
                    · intro w'
                      go_simp
                      with_reducible rfl
                    rotate_left
                    · simp only [Act.put, List.setIfInBounds_toArray, List.set_cons_zero, List.set_cons_succ, i64_w, i32_w]
                      rfl
                    refine pure_ (i := 13) (N := some 91) (v := ?_) (a' := ?_) #[true, true, true, true, true, true, true, true, true, true, true, true, true, true, false, false, false, false, false, false, false, false, false, false, false] rfl rfl (any_of HT_.out (by kernel_rfl)) (fun _ _ _ h => h) (Or.inl ⟨by rfl, ?_⟩) ?_ ?_
                    rotate_left
                    · intro w'
                      go_simp
                      with_reducible rfl
                    rotate_left
                    · simp only [Act.put, List.setIfInBounds_toArray, List.set_cons_zero, List.set_cons_succ, i64_w, i32_w]
                      rfl
                    refine pure_ (i := 14) (N := some 92) (v := ?_) (a' := ?_) #[true, true, true, true, true, true, true, true, true, true, true, true, true, true, true, false, false, false, false, false, false, false, false, false, false] rfl rfl (any_of HT_.out (by kernel_rfl)) (fun _ _ _ h => h) (Or.inl ⟨by rfl, ?_⟩) ?_ ?_
                    rotate_left
                    · intro w'
                      go_simp
                      with_reducible rfl
                    rotate_left
                    · simp only [Act.put, List.setIfInBounds_toArray, List.set_cons_zero, List.set_cons_succ, i64_w, i32_w]
                      rfl
                    refine take_ (i := 15) (N := some 93) (v := ?_) (a' := ?_) #[true, true, true, true, true, true, true, true, true, true, true, true, true, true, true, true, false, false, false, false, false, false, false, false, false] rfl rfl (take_ofW HT_.out HW_.out (by kernel_rfl)) (fun _ _ _ h => h) (Or.inl ⟨by rfl, ?_⟩) hHeld ?_ ?_
                    rotate_left
                    · rintro w' ⟨s0, s1, s2, s3, s4, s5, s6, s7, s8, s9, s10, s11⟩
                      go_simp
                      with_reducible rfl
                    rotate_left
                    · simp only [Act.put, List.setIfInBounds_toArray, List.set_cons_zero, List.set_cons_succ, i64_w, i32_w]
                      rfl
                    refine take_ (i := 17) (N := some 95) (v := ?_) (a' := ?_) #[true, true, true, true, true, true, true, true, true, true, true, true, true, true, true, true, false, true, false, false, false, false, false, false, false] rfl rfl (take_ofW HT_.out HW_.out (by kernel_rfl)) (fun _ _ _ h => h) (Or.inl ⟨by rfl, ?_⟩) hHeld ?_ ?_
                    rotate_left
                    · rintro w' ⟨s0, s1, s2, s3, s4, s5, s6, s7, s8, s9, s10, s11⟩
                      go_simp
                      with_reducible rfl
                    rotate_left
                    · simp only [Act.put, List.setIfInBounds_toArray, List.set_cons_zero, List.set_cons_succ, i64_w, i32_w]
                      rfl
                    refine one_ (i := 16) (N := some 94) #[true, true, true, true, true, true, true, true, true, true, true, true, true, true, true, true, true, true, false, false, false, false, false, false, false] rfl rfl (one_of HT_.out (by kernel_rfl)) (by decide) (fun K hK => ?_)
                    refine goes_ Try.func25 (by kernel_rfl) rfl #[.agg #[.int .i64 t239, .int .i64 t240, .slice Ao39 t241.length co39]] (by rfl) rfl rfl (by (try simp only [List.map_toArray, List.map_cons, List.map_nil]); first | done | rfl | (simp only [List.length_drop, List.length_take]; rfl)) ?_
                    with_reducible refine (incunableref05_Blacks.calls kj14 t239 t240 _ _ t241 t266 _ ?side1 ?side2 A89.out).mono ?_
                    (case side1 => repeat (first | exact (Kd.R_reads' HO_246002.out).2.2 | (with_reducible refine Kd.C_alloc ?_ _) | (with_reducible refine Kd.C_drewN ?_ _) | (with_reducible refine Kd.C_drew ?_)))
                    (case side2 => exact (Kd.R_reads' HO_246002.out).2.1)
                    rintro e w112 ⟨rfl, hb⟩
                    refine ⟨_, rfl, ?_⟩
                    have n0_ := Aside0.mk (Kd.R_below (rU HO_232002.out) hb)
                    have n1_ := Aside0.mk (Kd.R_below (rU HO_239002.out) hb)
                    have n2_ := Aside0.mk (Kd.R_below (rU HO_246002.out) hb)
                    have n3_ := Aside0.mk (Kd.R_below (rU HO_253002.out) hb)
                    have n4_ := Aside0.mk (Kd.R_below (rU HO260.out) hb)
                    have n5_ := Aside0.mk (blk_below (bU BK222.out) hb)
                    have n6_ := Aside0.mk (blk_below (bU BK231.out) hb)
                    have n7_ := Aside0.mk (blk_below (bU BK238.out) hb)
                    have n8_ := Aside0.mk (blk_below (bU BK245.out) hb)
                    have n9_ := Aside0.mk (blk_below (bU BK252.out) hb)
                    have n10_ := Aside0.mk (blk_below (bU BK262.out) hb)
                    have n11_ := Aside0.mk (below_step (by repeat (first | (with_reducible first | exact HB.out | apply below_alloc | apply pw_below_drewN | apply below_drew1 | refine below_set ?_ GE222.out | refine below_set ?_ GE231.out | refine below_set ?_ GE238.out | refine below_set ?_ GE245.out | refine below_set ?_ GE252.out | refine below_set ?_ GE262.out) | exact HB.out)) hb)
                    clear HO_232002
                    clear HO_239002
                    clear HO_246002
                    clear HO_253002
                    clear HO260
                    clear BK222
                    clear BK231
                    clear BK238
                    clear BK245
                    clear BK252
                    clear BK262
                    clear HB
                    have HO_232002 := n0_
                    have HO_239002 := n1_
                    have HO_246002 := n2_
                    have HO_253002 := n3_
                    have HO260 := n4_
                    have BK222 := n5_
                    have BK231 := n6_
                    have BK238 := n7_
                    have BK245 := n8_
                    have BK252 := n9_
                    have BK262 := n10_
                    have HB := n11_
                    clear n0_ n1_ n2_ n3_ n4_ n5_ n6_ n7_ n8_ n9_ n10_ n11_
                    (try clear hb)
                    (try clear hb2)
                    (try clear hk)
                    (try clear hi)
                    refine hK.out _ _ ⟨(blk_cell BK262.out 0).trans rfl, (blk_cell BK262.out 1).trans rfl, (blk_cell BK262.out 2).trans rfl, (blk_cell BK222.out 0).trans rfl, (blk_cell BK222.out 1).trans rfl, (blk_cell BK222.out 2).trans rfl, (blk_cell BK231.out 0).trans rfl, (blk_cell BK231.out 1).trans rfl, (blk_cell BK231.out 2).trans rfl, (blk_cell BK245.out 0).trans rfl, (blk_cell BK245.out 1).trans rfl, (blk_cell BK245.out 2).trans rfl⟩ (fun hHeld => ?_)
                    clear hK K
                    refine norm_ (a' := ?_) ?_ ?_
                    rotate_left
                    · show Act.put _ (some 94) _ = _
                      simp only [Act.put, List.setIfInBounds_toArray, List.set_cons_zero, List.set_cons_succ, i64_w, i32_w]
                      rfl
                    refine one_ (i := 18) (N := some 96) #[true, true, true, true, true, true, true, true, true, true, true, true, true, true, true, true, true, true, true, false, false, false, false, false, false] rfl rfl (one_of HT_.out (by kernel_rfl)) (by decide) (fun K hK => ?_)
                    refine goes_ Try.func25 (by kernel_rfl) rfl #[.agg #[.int .i64 a0_0, .int .i64 a0_1, .slice A0_2 l0_2.length c0_2]] (by rfl) rfl rfl (by (try simp only [List.map_toArray, List.map_cons, List.map_nil]); first | done | rfl | (simp only [List.length_drop, List.length_take]; rfl)) ?_
                    with_reducible refine (incunableref05_Blacks.calls kj14 a0_0 a0_1 _ _ l0_2 t267 _ ?side1 ?side2 A90.out).mono ?_
                    (case side1 => repeat (first | exact (Kd.C_below HR0_2.out HB.out) | (with_reducible refine Kd.C_alloc ?_ _) | (with_reducible refine Kd.C_drewN ?_ _) | (with_reducible refine Kd.C_drew ?_)))
                    (case side2 => exact HC0_2.out)
                    rintro e w113 ⟨rfl, hb⟩
                    refine ⟨_, rfl, ?_⟩
                    have n0_ := Aside0.mk (Kd.R_below (rU HO_232002.out) hb)
                    have n1_ := Aside0.mk (Kd.R_below (rU HO_239002.out) hb)
                    have n2_ := Aside0.mk (Kd.R_below (rU HO_246002.out) hb)
                    have n3_ := Aside0.mk (Kd.R_below (rU HO_253002.out) hb)
                    have n4_ := Aside0.mk (Kd.R_below (rU HO260.out) hb)
                    have n5_ := Aside0.mk (blk_below (bU BK222.out) hb)
                    have n6_ := Aside0.mk (blk_below (bU BK231.out) hb)
                    have n7_ := Aside0.mk (blk_below (bU BK238.out) hb)
                    have n8_ := Aside0.mk (blk_below (bU BK245.out) hb)
                    have n9_ := Aside0.mk (blk_below (bU BK252.out) hb)
                    have n10_ := Aside0.mk (blk_below (bU BK262.out) hb)
                    have n11_ := Aside0.mk (below_step (by repeat (first | (with_reducible first | exact HB.out | apply below_alloc | apply pw_below_drewN | apply below_drew1 | refine below_set ?_ GE222.out | refine below_set ?_ GE231.out | refine below_set ?_ GE238.out | refine below_set ?_ GE245.out | refine below_set ?_ GE252.out | refine below_set ?_ GE262.out) | exact HB.out)) hb)
                    clear HO_232002
                    clear HO_239002
                    clear HO_246002
                    clear HO_253002
                    clear HO260
                    clear BK222
                    clear BK231
                    clear BK238
                    clear BK245
                    clear BK252
                    clear BK262
                    clear HB
                    have HO_232002 := n0_
                    have HO_239002 := n1_
                    have HO_246002 := n2_
                    have HO_253002 := n3_
                    have HO260 := n4_
                    have BK222 := n5_
                    have BK231 := n6_
                    have BK238 := n7_
                    have BK245 := n8_
                    have BK252 := n9_
                    have BK262 := n10_
                    have HB := n11_
                    clear n0_ n1_ n2_ n3_ n4_ n5_ n6_ n7_ n8_ n9_ n10_ n11_
                    (try clear hb)
                    (try clear hb2)
                    (try clear hk)
                    (try clear hi)
                    refine hK.out _ _ ⟨(blk_cell BK262.out 0).trans rfl, (blk_cell BK262.out 1).trans rfl, (blk_cell BK262.out 2).trans rfl, (blk_cell BK222.out 0).trans rfl, (blk_cell BK222.out 1).trans rfl, (blk_cell BK222.out 2).trans rfl, (blk_cell BK231.out 0).trans rfl, (blk_cell BK231.out 1).trans rfl, (blk_cell BK231.out 2).trans rfl, (blk_cell BK245.out 0).trans rfl, (blk_cell BK245.out 1).trans rfl, (blk_cell BK245.out 2).trans rfl⟩ (fun hHeld => ?_)
                    clear hK K
                    refine norm_ (a' := ?_) ?_ ?_
                    rotate_left
                    · show Act.put _ (some 96) _ = _
                      simp only [Act.put, List.setIfInBounds_toArray, List.set_cons_zero, List.set_cons_succ, i64_w, i32_w]
                      rfl
                    refine pure_ (i := 19) (N := some 97) (v := ?_) (a' := ?_) #[true, true, true, true, true, true, true, true, true, true, true, true, true, true, true, true, true, true, true, true, false, false, false, false, false] rfl rfl (any_of HT_.out (by kernel_rfl)) (fun _ _ _ h => h) (Or.inl ⟨by rfl, ?_⟩) ?_ ?_
                    rotate_left
                    · intro w'
                      go_simp
                      with_reducible rfl
                    rotate_left
                    · simp only [Act.put, List.setIfInBounds_toArray, List.set_cons_zero, List.set_cons_succ, i64_w, i32_w]
                      rfl
                    refine pure_ (i := 20) (N := some 98) (v := ?_) (a' := ?_) #[true, true, true, true, true, true, true, true, true, true, true, true, true, true, true, true, true, true, true, true, true, false, false, false, false] rfl rfl (any_of HT_.out (by kernel_rfl)) (fun _ _ _ h => h) (Or.inl ⟨by rfl, ?_⟩) ?_ ?_
                    rotate_left
                    · intro w'
                      go_simp
                      with_reducible rfl
                    rotate_left
                    · simp only [Act.put, List.setIfInBounds_toArray, List.set_cons_zero, List.set_cons_succ, i64_w, i32_w]
                      rfl
                    refine pure_ (i := 21) (N := some 99) (v := ?_) (a' := ?_) #[true, true, true, true, true, true, true, true, true, true, true, true, true, true, true, true, true, true, true, true, true, true, false, false, false] rfl rfl (any_of HT_.out (by kernel_rfl)) (fun _ _ _ h => h) (Or.inl ⟨by rfl, ?_⟩) ?_ ?_
                    rotate_left
                    · intro w'
                      go_simp
                      with_reducible rfl
                    rotate_left
                    · simp only [Act.put, List.setIfInBounds_toArray, List.set_cons_zero, List.set_cons_succ, i64_w, i32_w]
                      rfl
                    refine one_ (i := 22) (N := some 100) #[true, true, true, true, true, true, true, true, true, true, true, true, true, true, true, true, true, true, true, true, true, true, true, false, false] rfl rfl (one_of HT_.out (by kernel_rfl)) (by decide) (fun K hK => ?_)
                    refine goes_ Try.func14 (by kernel_rfl) rfl #[] (by rfl) rfl rfl (by (try simp only [List.map_toArray, List.map_cons, List.map_nil]); first | done | rfl | (simp only [List.length_drop, List.length_take]; rfl)) ?_
                    with_reducible refine (incunablelaw29_Sane.calls kj14  t268 _ A92.out).mono ?_
                    rintro e w114 ⟨rfl, hb⟩
                    refine ⟨_, rfl, ?_⟩
                    have n0_ := Aside0.mk (Kd.R_below (rU HO_232002.out) hb)
                    have n1_ := Aside0.mk (Kd.R_below (rU HO_239002.out) hb)
                    have n2_ := Aside0.mk (Kd.R_below (rU HO_246002.out) hb)
                    have n3_ := Aside0.mk (Kd.R_below (rU HO_253002.out) hb)
                    have n4_ := Aside0.mk (Kd.R_below (rU HO260.out) hb)
                    have n5_ := Aside0.mk (blk_below (bU BK222.out) hb)
                    have n6_ := Aside0.mk (blk_below (bU BK231.out) hb)
                    have n7_ := Aside0.mk (blk_below (bU BK238.out) hb)
                    have n8_ := Aside0.mk (blk_below (bU BK245.out) hb)
                    have n9_ := Aside0.mk (blk_below (bU BK252.out) hb)
                    have n10_ := Aside0.mk (blk_below (bU BK262.out) hb)
                    have n11_ := Aside0.mk (below_step (by repeat (first | (with_reducible first | exact HB.out | apply below_alloc | apply pw_below_drewN | apply below_drew1 | refine below_set ?_ GE222.out | refine below_set ?_ GE231.out | refine below_set ?_ GE238.out | refine below_set ?_ GE245.out | refine below_set ?_ GE252.out | refine below_set ?_ GE262.out) | exact HB.out)) hb)
                    clear HO_232002
                    clear HO_239002
                    clear HO_246002
                    clear HO_253002
                    clear HO260
                    clear BK222
                    clear BK231
                    clear BK238
                    clear BK245
                    clear BK252
                    clear BK262
                    clear HB
                    have HO_232002 := n0_
                    have HO_239002 := n1_
                    have HO_246002 := n2_
                    have HO_253002 := n3_
                    have HO260 := n4_
                    have BK222 := n5_
                    have BK231 := n6_
                    have BK238 := n7_
                    have BK245 := n8_
                    have BK252 := n9_
                    have BK262 := n10_
                    have HB := n11_
                    clear n0_ n1_ n2_ n3_ n4_ n5_ n6_ n7_ n8_ n9_ n10_ n11_
                    (try clear hb)
                    (try clear hb2)
                    (try clear hk)
                    (try clear hi)
                    refine hK.out _ _ ⟨(blk_cell BK262.out 0).trans rfl, (blk_cell BK262.out 1).trans rfl, (blk_cell BK262.out 2).trans rfl, (blk_cell BK222.out 0).trans rfl, (blk_cell BK222.out 1).trans rfl, (blk_cell BK222.out 2).trans rfl, (blk_cell BK231.out 0).trans rfl, (blk_cell BK231.out 1).trans rfl, (blk_cell BK231.out 2).trans rfl, (blk_cell BK245.out 0).trans rfl, (blk_cell BK245.out 1).trans rfl, (blk_cell BK245.out 2).trans rfl⟩ (fun hHeld => ?_)
                    clear hK K
                    refine norm_ (a' := ?_) ?_ ?_
                    rotate_left
                    · show Act.put _ (some 100) _ = _
                      simp only [Act.put, List.setIfInBounds_toArray, List.set_cons_zero, List.set_cons_succ, i64_w, i32_w]
                      rfl
                    refine pure_ (i := 23) (N := some 101) (v := ?_) (a' := ?_) #[true, true, true, true, true, true, true, true, true, true, true, true, true, true, true, true, true, true, true, true, true, true, true, true, false] rfl rfl (any_of HT_.out (by kernel_rfl)) (fun _ _ _ h => h) (Or.inl ⟨by rfl, ?_⟩) ?_ ?_
                    rotate_left
                    · intro w'
                      go_simp
                      with_reducible rfl
                    rotate_left
                    · simp only [Act.put, List.setIfInBounds_toArray, List.set_cons_zero, List.set_cons_succ, i64_w, i32_w]
                      rfl
                    refine pure_ (i := 24) (N := some 6) (v := ?_) (a' := ?_) #[true, true, true, true, true, true, true, true, true, true, true, true, true, true, true, true, true, true, true, true, true, true, true, true, true] rfl rfl (any_of HT_.out (by kernel_rfl)) (fun _ _ _ h => h) (Or.inl ⟨by rfl, ?_⟩) ?_ ?_
                    rotate_left
                    · intro w'
                      go_simp
                      with_reducible rfl
                    rotate_left
                    · simp only [Act.put, List.setIfInBounds_toArray, List.set_cons_zero, List.set_cons_succ, i64_w, i32_w]
                      rfl
                    refine done_ (done_of HT_.out (by kernel_rfl)) ?_
                    try go_wp2
                    go_ret
                    exact ⟨by first | rfl | (simp [errW_none, errW_some] <;> rfl) | (simp [*, errW_none, errW_some] <;> rfl), by repeat (first | (with_reducible first | exact HB.out | apply below_alloc | apply pw_below_drewN | apply below_drew1 | refine below_set ?_ GE222.out | refine below_set ?_ GE231.out | refine below_set ?_ GE238.out | refine below_set ?_ GE245.out | refine below_set ?_ GE252.out | refine below_set ?_ GE262.out) | exact HB.out)⟩
                  · rw [if_neg c91] at H
                    have c91b0 : (t266 == t267) = false := beq_eq_false_iff_ne.mpr c91
                    have c91b1 : (t266 != t267) = true := bne_iff_ne.mpr c91
                    exact absurd ((Option.some.inj H).trans HR_.out) (by decide)
                · rw [if_neg c88] at H
                  have c88b0 : (t264 == t265) = false := beq_eq_false_iff_ne.mpr c88
                  have c88b1 : (t264 != t265) = true := bne_iff_ne.mpr c88
                  exact absurd ((Option.some.inj H).trans HR_.out) (by decide)
              · replace c85 := Bool.eq_false_iff.mpr c85
                subst c85
                have H1 : (some false) = some r := by rw [if_neg (show ¬ (false = true) by decide)] at H; exact H
                clear H
                have H := H1
                clear H1
                exact absurd ((Option.some.inj H).trans HR_.out) (by decide)
            · rw [if_neg c83] at H
              have c83b0 : (t261 == 0) = false := beq_eq_false_iff_ne.mpr c83
              have c83b1 : (t261 != 0) = true := bne_iff_ne.mpr c83
              exact absurd ((Option.some.inj H).trans HR_.out) (by decide)
          · rw [if_neg c81] at H
            have c81b0 : (t230 == 0) = false := beq_eq_false_iff_ne.mpr c81
            have c81b1 : (t230 != 0) = true := bne_iff_ne.mpr c81
            replace H := Option.bind_eq_some_iff.mp H
            obtain ⟨t255, A1150, H⟩ := H
            replace H : (some t255) = some r := H
            have A115 := Aside0.mk A1150
            clear A1150
            obtain rfl := Option.some.inj H
            go_wp2_with (first | ((with_reducible refine gate_callee (f := 14) rfl ?_); refine goesL_ (some 69) rfl rfl Try.func14 (by kernel_rfl) rfl #[] rfl (by (try simp only [List.map_toArray, List.map_cons, List.map_nil]); first | done | rfl | (simp only [List.length_drop, List.length_take]; rfl)) ?_; (with_reducible refine (incunablelaw29_Sane.calls kj14  t255 _ A115.out).mono ?_); rintro e w116 ⟨rfl, hb⟩; refine ⟨_, rfl, ?_⟩; have n0_ := Aside0.mk (Kd.R_below (rU HO_232002.out) hb); have n1_ := Aside0.mk (Kd.R_below (rU HO_239002.out) hb); have n2_ := Aside0.mk (Kd.R_below (rU HO_246002.out) hb); have n3_ := Aside0.mk (Kd.R_below (rU HO_253002.out) hb); have n4_ := Aside0.mk (blk_below (bU BK222.out) hb); have n5_ := Aside0.mk (blk_below (bU BK231.out) hb); have n6_ := Aside0.mk (blk_below (bU BK238.out) hb); have n7_ := Aside0.mk (blk_below (bU BK245.out) hb); have n8_ := Aside0.mk (blk_below (bU BK252.out) hb); have n9_ := Aside0.mk (below_step (by repeat (first | (with_reducible first | exact HB.out | apply below_alloc | apply pw_below_drewN | apply below_drew1 | refine below_set ?_ GE222.out | refine below_set ?_ GE231.out | refine below_set ?_ GE238.out | refine below_set ?_ GE245.out | refine below_set ?_ GE252.out) | exact HB.out)) hb); clear HO_232002; clear HO_239002; clear HO_246002; clear HO_253002; clear BK222; clear BK231; clear BK238; clear BK245; clear BK252; clear HB; have HO_232002 := n0_; have HO_239002 := n1_; have HO_246002 := n2_; have HO_253002 := n3_; have BK222 := n4_; have BK231 := n5_; have BK238 := n6_; have BK245 := n7_; have BK252 := n8_; have HB := n9_; clear n0_ n1_ n2_ n3_ n4_ n5_ n6_ n7_ n8_ n9_; (try clear hb); (try clear hb2); (try clear hk); (try clear hi)))
            go_ret
            exact ⟨by first | rfl | (simp [errW_none, errW_some] <;> rfl) | (simp [*, errW_none, errW_some] <;> rfl), by repeat (first | (with_reducible first | exact HB.out | apply below_alloc | apply pw_below_drewN | apply below_drew1 | refine below_set ?_ GE222.out | refine below_set ?_ GE231.out | refine below_set ?_ GE238.out | refine below_set ?_ GE245.out | refine below_set ?_ GE252.out) | exact HB.out)⟩

/-- THE ONE PURE STATEMENT of incunablelaw29_ScanRings: yours. -/
def incunablelaw29_ScanRings.Pure : Prop := ∀ (a0_0 : Int) (a0_1 : Int) (l0_2 : List Int) (a1 : Int) (a2 : Int), ((Lit.int .i64 a0_0).wf = true) → ((Lit.int .i64 a0_1).wf = true) → (l0_2.length ≤ 9223372036854775807 ∧ l0_2.length * 1 ≤ 140737488351232 ∧ ∀ y0_ ∈ l0_2, (Lit.int .u8 y0_).wf = true) → ((Lit.int .i64 a1).wf = true) → ((Lit.int .i64 a2).wf = true) → ∃ k, incunablelaw29_ScanRings.f k a0_0 a0_1 l0_2 a1 a2 = some true
theorem incunablelaw29_ScanRings.walk (P : incunablelaw29_ScanRings.Pure) (a0_0 : Int) (a0_1 : Int) (A0_2 : Option Addr) (c0_2 : Nat) (l0_2 : List Int) (a1 : Int) (a2 : Int) (w : World) (hr0_2 : Kd.C (Kd.int .u8) w A0_2 l0_2.length l0_2) (hc0_2 : l0_2.length ≤ c0_2) (g0_0 : (Lit.int .i64 a0_0).wf = true) (g0_1 : (Lit.int .i64 a0_1).wf = true) (g0_2 : l0_2.length ≤ 9223372036854775807 ∧ l0_2.length * 1 ≤ 140737488351232 ∧ ∀ y0_ ∈ l0_2, (Lit.int .u8 y0_).wf = true) (g1 : (Lit.int .i64 a1).wf = true) (g2 : (Lit.int .i64 a2).wf = true) :
    Calls Try.prog 6 #[.agg #[.int .i64 a0_0, .int .i64 a0_1, .slice A0_2 l0_2.length c0_2], .int .i64 a1, .int .i64 a2] w fun e w' => e = .returned (.bool true) ∧ Below w.heap.size w w' := by
  obtain ⟨k, h⟩ := P a0_0 a0_1 l0_2 a1 a2 g0_0 g0_1 g0_2 g1 g2
  refine (incunablelaw29_ScanRings.calls k a0_0 a0_1 A0_2 c0_2 l0_2 a1 a2 true w hr0_2 hc0_2 h rfl).mono ?_
  rintro e w' ⟨rfl, hd⟩
  exact ⟨rfl, hd⟩

end Go.Proofs.Ytkncofhgmcpagaa.PScanRings
