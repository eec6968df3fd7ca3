-- Written by a program of this session (wip/tools/myprint.py) over the kit's print. Not trusted: Lean checks it.
import Derived.Test.YtgcjhpcegmblgaaDoorPBitmapParsesx0
import Derived.Test.YtgcjhpcegmblgaaDoorPBitmapParsesx1
import Derived.Test.YtgcjhpcegmblgaaDoorPBitmapParsesx3
namespace Go.Proofs.YtgcjhpcegmblgaaDoor.PBitmapParses
open Go.RowKit Go.Proofs.YtgcjhpcegmblgaaDoorW.PrintWords Go.Proofs.YtgcjhpcegmblgaaDoorW.PrintLast Go.Proofs.YtgcjhpcegmblgaaDoorW.PrintMore
attribute [local go_sem] max2_int min2_int max_two min_two max_three min_three max_four min_four   -- for this text's walks alone
set_option linter.unusedVariables false
set_option linter.unusedSimpArgs false

/-! ### bitmap_Parse: function 9 -/
mutual
def bitmap_Parse.l0 : Nat → List ByteArray → List Int → List ByteArray → Int → Int → Option (Int × Int × List Int × Int)
 | 0, _, _, _, _, _ => none
 | k + 1, x6, x7, x25, x26, x27 => if x27 < x26 then (if 0 ≤ x27 then (if x27 < (x25.length : Int) then (if 0 < (x6.length : Int) then (if ((rdOf ByteArray.empty x25 x27).size : Int) = ((rdOf ByteArray.empty x6 0).size : Int) then ((strings_Trim.f (rdOf ByteArray.empty x25 x27) (⟨#[46, 35]⟩ : ByteArray)).bind fun t162 => (bitmap_Parse.j1 k x6 x7 (rdOf ByteArray.empty x25 x27) x25 x26 x27 (t162.toList != ([] : List UInt8)))) else (bitmap_Parse.j1 k x6 x7 (rdOf ByteArray.empty x25 x27) x25 x26 x27 true)) else (none)) else (none)) else (none)) else (if 0 < (x6.length : Int) then ((bitmap_fits.f ((rdOf ByteArray.empty x6 0).size : Int) (x6.length : Int)).bind fun t158 => (if t158 = true then (some (((rdOf ByteArray.empty x6 0).size : Int), (x6.length : Int), x7, 0)) else (some (0, 0, ([] : List Int), 4)))) else (none))
def bitmap_Parse.j1 : Nat → List ByteArray → List Int → ByteArray → List ByteArray → Int → Int → Bool → Option (Int × Int × List Int × Int)
 | 0, _, _, _, _, _, _, _ => none
 | k + 1, x6, x7, x9, x25, x26, x27, x42 => if x42 = true then (some (0, 0, ([] : List Int), 3)) else (bitmap_Parse.l1 k x6 x7 x9 x25 x26 x27 (x9.size : Int) 0)
def bitmap_Parse.l1 : Nat → List ByteArray → List Int → ByteArray → List ByteArray → Int → Int → Int → Int → Option (Int × Int × List Int × Int)
 | 0, _, _, _, _, _, _, _, _ => none
 | k + 1, x6, x7, x9, x25, x26, x27, x45, x46 => if x46 < x45 then (if 0 ≤ x46 then (if x46 < (x9.size : Int) then (if (bt x9 x46) = 35 then (if x7.length < 140737488355328 then (bitmap_Parse.l1 k x6 (x7 ++ [1]) x9 x25 x26 x27 x45 (wrap64 (x46 + 1))) else (none)) else (if x7.length < 140737488355328 then (bitmap_Parse.l1 k x6 (x7 ++ [0]) x9 x25 x26 x27 x45 (wrap64 (x46 + 1))) else (none))) else (none)) else (none)) else (bitmap_Parse.l0 k x6 x7 x25 x26 (wrap64 (x27 + 1)))
end
def bitmap_Parse.f (k : Nat) (a0 : ByteArray) : Option (Int × Int × List Int × Int) := if a0.toList = ([] : List UInt8) then (some (0, 0, ([] : List Int), 0)) else ((strings_CutSuffix.f a0 (⟨#[10]⟩ : ByteArray)).bind fun bt152 => (if bt152.2 = true then ((strings_Split.f bt152.1 (⟨#[10]⟩ : ByteArray)).bind fun t154 => (bitmap_Parse.l0 k t154 ([] : List Int) t154 (t154.length : Int) 0)) else (some (0, 0, ([] : List Int), 3))))
theorem bitmap_Parse.mono_l : ∀ k, (∀ y0 y1 y2 y3 y4, LeO (bitmap_Parse.l0 k y0 y1 y2 y3 y4) (bitmap_Parse.l0 (k + 1) y0 y1 y2 y3 y4)) ∧ (∀ y0 y1 y2 y3 y4 y5 y6, LeO (bitmap_Parse.j1 k y0 y1 y2 y3 y4 y5 y6) (bitmap_Parse.j1 (k + 1) y0 y1 y2 y3 y4 y5 y6)) ∧ (∀ y0 y1 y2 y3 y4 y5 y6 y7, LeO (bitmap_Parse.l1 k y0 y1 y2 y3 y4 y5 y6 y7) (bitmap_Parse.l1 (k + 1) y0 y1 y2 y3 y4 y5 y6 y7))
 | 0 => ⟨fun _ _ _ _ _ r h => by simp [bitmap_Parse.l0] at h, fun _ _ _ _ _ _ _ r h => by simp [bitmap_Parse.j1] at h, fun _ _ _ _ _ _ _ _ r h => by simp [bitmap_Parse.l1] at h⟩
 | k + 1 => by
  obtain ⟨ih0, ih1, ih2⟩ := bitmap_Parse.mono_l k
  refine ⟨?_, ?_, ?_⟩
  ·intro y0 y1 y2 y3 y4
   unfold bitmap_Parse.l0
   repeat' first
   | (with_reducible exact ih0 _ _ _ _ _)
   | (with_reducible exact ih1 _ _ _ _ _ _ _)
   | (with_reducible exact ih2 _ _ _ _ _ _ _ _)
   | (with_reducible first | exact LeO.refl _ | exact LeO.none _ | refine LeO.ite ?_ ?_ | refine LeO.bind ?_ (fun _ => ?_))
   | exact ih0 _ _ _ _ _
   | exact ih1 _ _ _ _ _ _ _
   | exact ih2 _ _ _ _ _ _ _ _
   | exact LeO.none _ | refine LeO.ite ?_ ?_ | refine LeO.bind ?_ (fun _ => ?_)
  ·intro y0 y1 y2 y3 y4 y5 y6
   unfold bitmap_Parse.j1
   repeat' first
   | (with_reducible exact ih0 _ _ _ _ _)
   | (with_reducible exact ih1 _ _ _ _ _ _ _)
   | (with_reducible exact ih2 _ _ _ _ _ _ _ _)
   | (with_reducible first | exact LeO.refl _ | exact LeO.none _ | refine LeO.ite ?_ ?_ | refine LeO.bind ?_ (fun _ => ?_))
   | exact ih0 _ _ _ _ _
   | exact ih1 _ _ _ _ _ _ _
   | exact ih2 _ _ _ _ _ _ _ _
   | exact LeO.none _ | refine LeO.ite ?_ ?_ | refine LeO.bind ?_ (fun _ => ?_)
  ·intro y0 y1 y2 y3 y4 y5 y6 y7
   unfold bitmap_Parse.l1
   repeat' first
   | (with_reducible exact ih0 _ _ _ _ _)
   | (with_reducible exact ih1 _ _ _ _ _ _ _)
   | (with_reducible exact ih2 _ _ _ _ _ _ _ _)
   | (with_reducible first | exact LeO.refl _ | exact LeO.none _ | refine LeO.ite ?_ ?_ | refine LeO.bind ?_ (fun _ => ?_))
   | exact ih0 _ _ _ _ _
   | exact ih1 _ _ _ _ _ _ _
   | exact ih2 _ _ _ _ _ _ _ _
   | exact LeO.none _ | refine LeO.ite ?_ ?_ | refine LeO.bind ?_ (fun _ => ?_)
theorem bitmap_Parse.mono : ∀ a0 k, LeO (bitmap_Parse.f k a0) (bitmap_Parse.f (k + 1) a0) := by
 intro a0 k
 obtain ⟨ih0, ih1, ih2⟩ := bitmap_Parse.mono_l k
 unfold bitmap_Parse.f
 repeat' first
   | (with_reducible exact ih0 _ _ _ _ _)
   | (with_reducible exact ih1 _ _ _ _ _ _ _)
   | (with_reducible exact ih2 _ _ _ _ _ _ _ _)
   | (with_reducible first | exact LeO.refl _ | exact LeO.none _ | refine LeO.ite ?_ ?_ | refine LeO.bind ?_ (fun _ => ?_))
   | exact ih0 _ _ _ _ _
   | exact ih1 _ _ _ _ _ _ _
   | exact ih2 _ _ _ _ _ _ _ _
   | exact LeO.none _ | refine LeO.ite ?_ ?_ | refine LeO.bind ?_ (fun _ => ?_)
set_option maxHeartbeats 8000000 in
set_option maxRecDepth 100000 in
theorem bitmap_Parse.calls (k : Nat) (a0 : ByteArray) (r1 : Int) (r2 : Int) (r3 : List Int) (r4 : Int) (w : World) (hT0 : TIs w) (h : bitmap_Parse.f k a0 = some (r1, r2, r3, r4)) :
  Calls Tryd.prog 9 #[.string a0] w fun e w' => ∃ v2_ : Value, e = .returned (.tuple #[.agg #[.int .i64 r1, .int .i64 r2, v2_], .int .i64 r4]) ∧ Kd.R (Kd.int .u8) 5 w' w.heap.size (fun _ => True) v2_ r3 ∧ Below w.heap.size w w' := by
 have HTI := Aside0.mk hT0
 clear hT0
 have hu24 := Tryd.underlying24
 have HB := Aside0.mk (Below.refl w.heap.size w)
 have H : (if a0.toList = ([] : List UInt8) then (some (0, 0, ([] : List Int), 0)) else ((strings_CutSuffix.f a0 (⟨#[10]⟩ : ByteArray)).bind fun bt152 => (if bt152.2 = true then ((strings_Split.f bt152.1 (⟨#[10]⟩ : ByteArray)).bind fun t154 => (bitmap_Parse.l0 k t154 ([] : List Int) t154 (t154.length : Int) 0)) else (some (0, 0, ([] : List Int), 3))))) = some (r1, r2, r3, r4) := h
 clear h
 by_cases c2 : a0.toList = ([] : List UInt8)
 ·rw [if_pos c2] at H
  have c2b0 := beq_iff_eq.mpr c2
  have c2b1 := bne_eq_false_iff_eq.mpr c2
  clear c2
  simp only [Option.some.injEq, Prod.mk.injEq] at H
  obtain ⟨rfl, rfl, rfl, rfl⟩ := H
  go_enter Tryd.func9, Tryd.ntmps9
  go_wp2_with (first | ((with_reducible refine gd 2 rfl ?_); refine bx 2 #[.int .i64 0, .int .i64 0, .slice none 0 0] 24 rfl rfl ?_; intro gb151 hg w3 hbox hb; have n_ := aC (bs hb) (aC hbox (aC (gz hg) (aE (gz hg)))); clear HB; obtain ⟨HB, BK151, GW151, GE151⟩ := n_; clear hb hbox hg; obtain ⟨hcz4_0, hcz4_1, hcz4_2, hfz4_0, hfz4_1, hfz4_2⟩ := cz3f BK151.out))
  refine bodyPost_ret (results_ct rfl _ _ gb151 24 #[.int .i64 0, .int .i64 0, .slice none 0 0] (0, 0) _ rfl (by (with_reducible repeat (first | refine blk_drewN ?_ _ | refine blk_drew ?_ | refine blk_alloc ?_ _)); refine blk_put (cs := #[.int .i64 0, .int .i64 0, .slice none 0 0]) ?_ 2 _ rfl; (with_reducible repeat (first | refine blk_drewN ?_ _ | refine blk_drew ?_ | refine blk_alloc ?_ _)); refine blk_put (cs := #[.int .i64 0, .int .i64 0, .slice none 0 0]) ?_ 1 _ rfl; (with_reducible repeat (first | refine blk_drewN ?_ _ | refine blk_drew ?_ | refine blk_alloc ?_ _)); refine blk_put (cs := #[.int .i64 0, .int .i64 0, .slice none 0 0]) ?_ 0 _ rfl; (with_reducible repeat (first | refine blk_drewN ?_ _ | refine blk_drew ?_ | refine blk_alloc ?_ _)); exact BK151.out) Tryd.underlying24 rfl (by kernel_rfl)) rfl ?_
  exact ⟨_, re, by first | exact Kd.R_nil _ _ _ _ _ | exact Kd.N_nil _ _ _ _ _ | exact Kd.V_nil _ _ _ _ _ | exact Kd.Q_nil _ _ _ _ _ | exact Kd.S_nil _ _ _ _ _, bl⟩
 ·rw [if_neg c2] at H
  have c2b0 := beq_eq_false_iff_ne.mpr c2
  have c2b1 := bne_iff_ne.mpr c2
  replace H := Option.bind_eq_some_iff.mp H
  obtain ⟨⟨t152, t153⟩, A50, H⟩ := H
  replace H : (if t153 = true then ((strings_Split.f t152 (⟨#[10]⟩ : ByteArray)).bind fun t154 => (bitmap_Parse.l0 k t154 ([] : List Int) t154 (t154.length : Int) 0)) else (some (0, 0, ([] : List Int), 3))) = some (r1, r2, r3, r4) := H
  have A5 := Aside0.mk A50
  clear A50
  by_cases c6 : t153 = true
  ·subst c6
   have H1 : ((strings_Split.f t152 (⟨#[10]⟩ : ByteArray)).bind fun t154 => (bitmap_Parse.l0 k t154 ([] : List Int) t154 (t154.length : Int) 0)) = some (r1, r2, r3, r4) := by rw [if_pos rfl] at H; exact H
   clear H
   have H := H1
   clear H1
   replace H := Option.bind_eq_some_iff.mp H
   obtain ⟨t154, A70, H⟩ := H
   replace H : (bitmap_Parse.l0 k t154 ([] : List Int) t154 (t154.length : Int) 0) = some (r1, r2, r3, r4) := H
   have A7 := Aside0.mk A70
   clear A70
   have H' := Aside0.mk H
   clear H
   go_enter Tryd.func9, Tryd.ntmps9
   go_wp2_with (first | ((with_reducible refine gd 2 rfl ?_); refine bx 2 #[.int .i64 0, .int .i64 0, .slice none 0 0] 24 rfl rfl ?_; intro gb151 hg w8 hbox hb; have n_ := aC (bs hb) (aC hbox (aC (gz hg) (aE (gz hg)))); clear HB; obtain ⟨HB, BK151, GW151, GE151⟩ := n_; clear hb hbox hg) | ((with_reducible refine gf 19 rfl ?_); refine gL (some 17) rfl rfl Tryd.func19 rfl #[.string a0, .string (⟨#[10]⟩ : ByteArray)] rfl ?_; (with_reducible refine (strings_CutSuffix.calls a0 (⟨#[10]⟩ : ByteArray) t152 true _ A5.out).mono ?_); rintro e w' ⟨rfl, ⟨nd, rfl⟩⟩; refine ⟨_, rfl, ?_⟩) | ((with_reducible refine gf 20 rfl ?_); refine gL (some 24) rfl rfl Tryd.func20 rfl #[.string t152, .string (⟨#[10]⟩ : ByteArray)] rfl ?_; (with_reducible refine (strings_Split.calls t152 (⟨#[10]⟩ : ByteArray) t154 _ (TIs.on HTI) A7.out).mono ?_); rintro e w9 ⟨v155, rfl, ho0, hb⟩; refine ⟨_, rfl, ?_⟩; have n_ := aC (Kd.R_lower ho0 bz) (aC (blk_below (bU BK151.out) hb) (aE (bs hb))); clear BK151 HB; obtain ⟨HO156, BK151, HB⟩ := n_; (try clear hb); (try clear ho0); obtain ⟨Ao10, co10, eo10⟩ := Kd.R_slice HO156.out; subst eo10))
   go_loopg [7, 27] k (fun kq v7 v27 w' => ∃ (x7_1 : List Int) (x27_1 : Int) (x152000_1 : Int) (x152001_1 : Int), v27 = .int .i64 x27_1 ∧ Aside0 (bitmap_Parse.l0 kq t154 x7_1 t154 (t154.length : Int) x27_1 = some (r1, r2, r3, r4)) ∧ Aside0 (kq ≤ k) ∧ Aside0 (Kd.R Kd.string 9 w' w.heap.size (fun _ => True) (.slice Ao10 t154.length co10) t154) ∧ Aside0 (Kd.R (Kd.int .u8) 5 w' w.heap.size (fun _ => True) v7 x7_1) ∧ Aside0 (Kd.R Kd.string 9 w' w.heap.size (fun _ => True) (.slice Ao10 t154.length co10) t154) ∧ Aside0 (w'.heap[gb151]? = some (.cells #[.int .i64 x152000_1, .int .i64 x152001_1, (.slice none 0 0)] 24 (0, 0))) ∧ Aside0 (Below w.heap.size w w'))
   case atStart => exact ⟨(([] : List Int)), (0), (0), (0), rq, H', ⟨Nat.le_refl _⟩, ⟨rU HO156.out⟩, ⟨by first | exact Kd.R_nil _ _ _ _ _ | exact Kd.N_nil _ _ _ _ _ | exact Kd.V_nil _ _ _ _ _ | exact Kd.Q_nil _ _ _ _ _ | exact Kd.S_nil _ _ _ _ _⟩, ⟨rU HO156.out⟩, ⟨bU BK151.out⟩, ⟨bl⟩⟩
   case round =>
    clear H'
    obtain ⟨x7_1, x27_1, x152000_1, x152001_1, rfl, HA, HK1, HO_6, HO_7, HO_25, BK151, HB⟩ := hrel
    cases gk with
    | zero => exact absurd HA.out (by simp [bitmap_Parse.l0])
    | succ k1 =>
     have H := HA.out
     clear HA
     simp only [bitmap_Parse.l0] at H
     by_cases c11 : x27_1 < (t154.length : Int)
     ·rw [if_pos c11] at H
      have c11b0 := decide_eq_true c11
      clear c11
      by_cases c12 : 0 ≤ x27_1
      ·rw [if_pos c12] at H
       have c12b0 := decide_eq_true c12
       clear c12
       by_cases c13 : x27_1 < (t154.length : Int)
       ·rw [if_pos c13] at H
        have c13b0 := decide_eq_true c13
        clear c13
        have HC14 := Aside0.mk H
        clear H
        have p160 : 0 ≤ (x27_1 : Int) := dt
        have q160 : x27_1 < (t154.length : Int) := dt
        obtain ⟨ad160, e160, hx160_0⟩ := Kd.at_string (Kd.R_reads' HO_25.out).2.2 x27_1 p160 q160
        cases e160
        replace p160 := eq_true p160
        replace q160 := eq_true q160
        go_upto_region 11 with (fail)
        go_cut [42] (fun v42 wc => ∃ (kq : Nat) (x42_13 : Bool), v42 = .bool x42_13 ∧ Aside0 (bitmap_Parse.j1 kq t154 x7_1 (rdOf ByteArray.empty t154 x27_1) t154 (t154.length : Int) x27_1 x42_13 = some (r1, r2, r3, r4)) ∧ Aside0 (kq ≤ k1) ∧ Aside0 (Kd.R Kd.string 9 wc w.heap.size (fun _ => True) (.slice (some ad160) t154.length co10) t154) ∧ Aside0 (Kd.R (Kd.int .u8) 5 wc w.heap.size (fun _ => True) u7 x7_1) ∧ Aside0 (Kd.R Kd.string 9 wc w.heap.size (fun _ => True) (.slice (some ad160) t154.length co10) t154) ∧ Aside0 (wc.heap[gb151]? = some (.cells #[.int .i64 x152000_1, .int .i64 x152001_1, (.slice none 0 0)] 24 (0, 0))) ∧ Aside0 (Below w.heap.size w wc))
        case first =>
         have H := HC14.out
         clear HC14
         by_cases c15 : 0 < (t154.length : Int)
         ·rw [if_pos c15] at H
          have c15b0 := decide_eq_true c15
          have c15b1 : decide (0 < t154.length) = true := decide_eq_true (by omega)
          clear c15
          (first | rw [c15b0] | (simp only [i64_w, i32_w]; rw [c15b0]) | skip)
          by_cases c16 : ((rdOf ByteArray.empty t154 x27_1).size : Int) = ((rdOf ByteArray.empty t154 0).size : Int)
          ·rw [if_pos c16] at H
           have c16b0 := beq_iff_eq.mpr c16
           have c16b1 := bne_eq_false_iff_eq.mpr c16
           have c16b2 : ((rdOf ByteArray.empty t154 x27_1).size == (rdOf ByteArray.empty t154 0).size) = true := by first | simpa using c16 | (simp at c16 ⊢; omega)
           clear c16
           replace H := Option.bind_eq_some_iff.mp H
           obtain ⟨t162, A170, H⟩ := H
           replace H : (bitmap_Parse.j1 k1 t154 x7_1 (rdOf ByteArray.empty t154 x27_1) t154 (t154.length : Int) x27_1 (t162.toList != ([] : List UInt8))) = some (r1, r2, r3, r4) := H
           have A17 := Aside0.mk A170
           clear A170
           have H' := Aside0.mk H
           clear H
           have p161 : 0 ≤ (0 : Int) := (by omega)
           have q161 : 0 < (t154.length : Int) := dt
           obtain ⟨ad161, e161, hx161_0⟩ := Kd.at_string (Kd.R_reads' HO_6.out).2.2 0 p161 q161
           obtain rfl : ad160 = ad161 := (by injection e161)
           have qi161 : (0 < t154.length) = True := eq_true (by omega)
           (try rw [show ((0 : Int)).toNat = 0 from rfl] at hx161_0)
           (try rw [Addr.add_zero'] at hx161_0)
           replace p161 := eq_true p161
           replace q161 := eq_true q161
           go_wp2_with (first | (go_at_call 21; (with_reducible refine (strings_Trim.calls (rdOf ByteArray.empty t154 x27_1) (⟨#[46, 35]⟩ : ByteArray) t162 _ A17.out).mono ?_); rintro e w18 ⟨rfl, hb⟩; have n_ := aC (Kd.R_below (rU HO_6.out) hb) (aC (Kd.R_below (rU HO_7.out) hb) (aC (Kd.R_below (rU HO_25.out) hb) (aC (blk_below (bU BK151.out) hb) (aE (bs hb))))); clear HO_6 HO_7 HO_25 BK151 HB; obtain ⟨HO_6, HO_7, HO_25, BK151, HB⟩ := n_; (try clear hb)))
           go_meet
           case rel => exact ⟨_, ((t162.toList != ([] : List UInt8))), rq, H', ⟨by have := HK1.out; first | omega | exact Nat.le_refl _⟩, ⟨rU HO_6.out⟩, ⟨rU HO_7.out⟩, ⟨rU HO_25.out⟩, ⟨bU BK151.out⟩, ⟨bl⟩⟩
          ·rw [if_neg c16] at H
           have c16b0 := beq_eq_false_iff_ne.mpr c16
           have c16b1 := bne_iff_ne.mpr c16
           have c16b2 : ((rdOf ByteArray.empty t154 x27_1).size == (rdOf ByteArray.empty t154 0).size) = false := by first | simpa using c16 | (simp at c16 ⊢; omega)
           have H' := Aside0.mk H
           clear H
           have p161 : 0 ≤ (0 : Int) := (by omega)
           have q161 : 0 < (t154.length : Int) := dt
           obtain ⟨ad161, e161, hx161_0⟩ := Kd.at_string (Kd.R_reads' HO_6.out).2.2 0 p161 q161
           obtain rfl : ad160 = ad161 := (by injection e161)
           have qi161 : (0 < t154.length) = True := eq_true (by omega)
           (try rw [show ((0 : Int)).toNat = 0 from rfl] at hx161_0)
           (try rw [Addr.add_zero'] at hx161_0)
           replace p161 := eq_true p161
           replace q161 := eq_true q161
           go_wp2
           go_meet
           case rel => exact ⟨_, (true), rq, H', ⟨by have := HK1.out; first | omega | exact Nat.le_refl _⟩, ⟨rU HO_6.out⟩, ⟨rU HO_7.out⟩, ⟨rU HO_25.out⟩, ⟨bU BK151.out⟩, ⟨bl⟩⟩
         ·rw [if_neg c15] at H
          exact absurd H (by simp)
        case rest =>
         clear HC14
         obtain ⟨kq, x42_13, rfl, HA, HJ13, HO_6, HO_7, HO_25, BK151, HB⟩ := hcut
         cases kq with
         | zero => exact absurd HA.out (by simp [bitmap_Parse.j1])
         | succ kj13 =>
          have H := HA.out
          clear HA
          simp only [bitmap_Parse.j1] at H
          by_cases c19 : x42_13 = true
          ·subst c19
           have H1 : (some (0, 0, ([] : List Int), 3)) = some (r1, r2, r3, r4) := by rw [if_pos rfl] at H; exact H
           clear H
           have H := H1
           clear H1
           simp only [Option.some.injEq, Prod.mk.injEq] at H
           obtain ⟨rfl, rfl, rfl, rfl⟩ := H
           obtain ⟨hcz20_0, hcz20_1, hcz20_2, hfz20_0, hfz20_1, hfz20_2⟩ := cz3f BK151.out
           go_wp2
           refine bodyPost_ret (results_ct rfl _ _ gb151 24 #[.int .i64 0, .int .i64 0, .slice none 0 0] (0, 0) _ rfl (by (with_reducible repeat (first | refine blk_drewN ?_ _ | refine blk_drew ?_ | refine blk_alloc ?_ _)); refine blk_put (cs := #[.int .i64 0, .int .i64 0, .slice none 0 0]) ?_ 2 _ rfl; (with_reducible repeat (first | refine blk_drewN ?_ _ | refine blk_drew ?_ | refine blk_alloc ?_ _)); refine blk_put (cs := #[.int .i64 0, .int .i64 x152001_1, .slice none 0 0]) ?_ 1 _ rfl; (with_reducible repeat (first | refine blk_drewN ?_ _ | refine blk_drew ?_ | refine blk_alloc ?_ _)); refine blk_put (cs := #[.int .i64 x152000_1, .int .i64 x152001_1, .slice none 0 0]) ?_ 0 _ rfl; (with_reducible repeat (first | refine blk_drewN ?_ _ | refine blk_drew ?_ | refine blk_alloc ?_ _)); exact BK151.out) Tryd.underlying24 rfl (by kernel_rfl)) rfl ?_
           exact ⟨_, re, by first | exact Kd.R_nil _ _ _ _ _ | exact Kd.N_nil _ _ _ _ _ | exact Kd.V_nil _ _ _ _ _ | exact Kd.Q_nil _ _ _ _ _ | exact Kd.S_nil _ _ _ _ _, bl⟩
          ·replace c19 := Bool.eq_false_iff.mpr c19
           subst c19
           have H1 : (bitmap_Parse.l1 kj13 t154 x7_1 (rdOf ByteArray.empty t154 x27_1) t154 (t154.length : Int) x27_1 ((rdOf ByteArray.empty t154 x27_1).size : Int) 0) = some (r1, r2, r3, r4) := by rw [if_neg (show ¬ (false = true) by decide)] at H; exact H
           clear H
           have H := H1
           clear H1
           have H' := Aside0.mk H
           clear H
           go_wp2
           go_loopg [7, 46] kj13 (fun kq v7 v46 w' => ∃ (x7_3 : List Int) (x46_3 : Int), v46 = .int .i64 x46_3 ∧ Aside0 (bitmap_Parse.l1 kq t154 x7_3 (rdOf ByteArray.empty t154 x27_1) t154 (t154.length : Int) x27_1 ((rdOf ByteArray.empty t154 x27_1).size : Int) x46_3 = some (r1, r2, r3, r4)) ∧ Aside0 (kq ≤ kj13) ∧ Aside0 (Kd.R Kd.string 9 w' w.heap.size (fun _ => True) (.slice (some ad160) t154.length co10) t154) ∧ Aside0 (Kd.R (Kd.int .u8) 5 w' w.heap.size (fun _ => True) v7 x7_3) ∧ Aside0 (Kd.R Kd.string 9 w' w.heap.size (fun _ => True) (.slice (some ad160) t154.length co10) t154) ∧ Aside0 (w'.heap[gb151]? = some (.cells #[.int .i64 x152000_1, .int .i64 x152001_1, (.slice none 0 0)] 24 (0, 0))) ∧ Aside0 (Below w.heap.size w w'))
           case atStart => exact ⟨(x7_1), (0), rq, H', ⟨Nat.le_refl _⟩, ⟨rU HO_6.out⟩, ⟨rU HO_7.out⟩, ⟨rU HO_25.out⟩, ⟨bU BK151.out⟩, ⟨bl⟩⟩
           case round =>
            clear H'
            obtain ⟨x7_3, x46_3, rfl, HA, HK3, HO_6, HO_7, HO_25, BK151, HB⟩ := hrel
            cases gk with
            | zero => exact absurd HA.out (by simp [bitmap_Parse.l1])
            | succ k3 =>
             have H := HA.out
             clear HA
             simp only [bitmap_Parse.l1] at H
             by_cases c21 : x46_3 < ((rdOf ByteArray.empty t154 x27_1).size : Int)
             ·rw [if_pos c21] at H
              have c21b0 := decide_eq_true c21
              clear c21
              by_cases c22 : 0 ≤ x46_3
              ·rw [if_pos c22] at H
               have c22b0 := decide_eq_true c22
               clear c22
               by_cases c23 : x46_3 < ((rdOf ByteArray.empty t154 x27_1).size : Int)
               ·rw [if_pos c23] at H
                have c23b0 := decide_eq_true c23
                clear c23
                by_cases c25 : (bt (rdOf ByteArray.empty t154 x27_1) x46_3) = 35
                ·rw [if_pos c25] at H
                 have c25b0 := beq_iff_eq.mpr c25
                 have c25b1 := bne_eq_false_iff_eq.mpr c25
                 clear c25
                 by_cases c26 : x7_3.length < 140737488355328
                 ·rw [if_pos c26] at H
                  have LMc26 := Aside0.mk c26
                  clear c26
                  obtain ⟨y163, hy_⟩ : ∃ y_ : List Int, y_ = (x7_3 ++ [1]) := ⟨_, rfl⟩
                  replace H : (bitmap_Parse.l1 k3 t154 y163 (rdOf ByteArray.empty t154 x27_1) t154 (t154.length : Int) x27_1 ((rdOf ByteArray.empty t154 x27_1).size : Int) (wrap64 (x46_3 + 1))) = some (r1, r2, r3, r4) := rh
                  have Ny163 := aE hy_
                  clear hy_
                  have H' := Aside0.mk H
                  clear H
                  have p24 : 0 ≤ (x46_3 : Int) := dt
                  have q24 : x46_3 < ((rdOf ByteArray.empty t154 x27_1).size : Int) := dt
                  have hx24 := bt_at (rdOf ByteArray.empty t154 x27_1) x46_3
                  replace p24 := eq_true p24
                  replace q24 := eq_true q24
                  go_wp2_with (first | ((with_reducible refine gate_builtin (b := .append) (xs := #[.tmp 53, .tmp 55]) rfl ?_); at_builtin; refine Kd.R_append (Kd.int .u8) (w0 := w) w.heap.size rfl (.tmp 53) (.tmp 55) 22 5 (.int .u8 0) 1 rfl Tryd.underlying22 info5 rfl (by decide) (by omega) u7 x7_3 1 [.int .u8 1] (fun _ => True) (fun _ => False) rfl rfl ?aP (fun _ hk => hk.elim) ?aF ?aO ?aB ?aS ?aL ?_; (case aP => exact rfl); (case aB => exact bl); (case aF => exact (fun _ _ => trivial)); (case aO => exact (rU HO_7.out)); (case aS => exact bz); (case aL => have := LMc26.out; omega); intro v164 w27 ho hb hg hat; rw [← Ny163.out] at ho; have n_ := aC (Kd.R_over' (rU HO_6.out) (Kd.R_typed (rU HO_7.out)) (by decide) hg) (aC (Kd.R_over' (rU HO_25.out) (Kd.R_typed (rU HO_7.out)) (by decide) hg) (aC (blk_grown (bU BK151.out) hg (Kd.R_ne HO_7.out BK151.out (by decide))) (aC hb (aE ho)))); clear HO_6 HO_25 BK151 HB HO_7; obtain ⟨HO_6, HO_25, BK151, HB, HO165⟩ := n_; clear ho hb hg hat))
                  go_roundg k3
                  case measure => have := HK1.out; have := HJ13.out; have := HK3.out; omega
                  case rel => exact ⟨(y163), (wrap64 (x46_3 + 1)), rq, H', ⟨by have := HK1.out; have := HJ13.out; have := HK3.out; omega⟩, ⟨rU HO_6.out⟩, ⟨rU HO165.out⟩, ⟨rU HO_25.out⟩, ⟨bU BK151.out⟩, ⟨bl⟩⟩
                 ·rw [if_neg c26] at H
                  exact absurd H (by simp)
                ·rw [if_neg c25] at H
                 have c25b0 := beq_eq_false_iff_ne.mpr c25
                 have c25b1 := bne_iff_ne.mpr c25
                 by_cases c28 : x7_3.length < 140737488355328
                 ·rw [if_pos c28] at H
                  have LMc28 := Aside0.mk c28
                  clear c28
                  obtain ⟨y166, hy_⟩ : ∃ y_ : List Int, y_ = (x7_3 ++ [0]) := ⟨_, rfl⟩
                  replace H : (bitmap_Parse.l1 k3 t154 y166 (rdOf ByteArray.empty t154 x27_1) t154 (t154.length : Int) x27_1 ((rdOf ByteArray.empty t154 x27_1).size : Int) (wrap64 (x46_3 + 1))) = some (r1, r2, r3, r4) := rh
                  have Ny166 := aE hy_
                  clear hy_
                  have H' := Aside0.mk H
                  clear H
                  have p24 : 0 ≤ (x46_3 : Int) := dt
                  have q24 : x46_3 < ((rdOf ByteArray.empty t154 x27_1).size : Int) := dt
                  have hx24 := bt_at (rdOf ByteArray.empty t154 x27_1) x46_3
                  replace p24 := eq_true p24
                  replace q24 := eq_true q24
                  go_wp2_with (first | ((with_reducible refine gate_builtin (b := .append) (xs := #[.tmp 53, .tmp 55]) rfl ?_); at_builtin; refine Kd.R_append (Kd.int .u8) (w0 := w) w.heap.size rfl (.tmp 53) (.tmp 55) 22 5 (.int .u8 0) 1 rfl Tryd.underlying22 info5 rfl (by decide) (by omega) u7 x7_3 0 [.int .u8 0] (fun _ => True) (fun _ => False) rfl rfl ?aP (fun _ hk => hk.elim) ?aF ?aO ?aB ?aS ?aL ?_; (case aP => exact rfl); (case aB => exact bl); (case aF => exact (fun _ _ => trivial)); (case aO => exact (rU HO_7.out)); (case aS => exact bz); (case aL => have := LMc28.out; omega); intro v167 w29 ho hb hg hat; rw [← Ny166.out] at ho; have n_ := aC (Kd.R_over' (rU HO_6.out) (Kd.R_typed (rU HO_7.out)) (by decide) hg) (aC (Kd.R_over' (rU HO_25.out) (Kd.R_typed (rU HO_7.out)) (by decide) hg) (aC (blk_grown (bU BK151.out) hg (Kd.R_ne HO_7.out BK151.out (by decide))) (aC hb (aE ho)))); clear HO_6 HO_25 BK151 HB HO_7; obtain ⟨HO_6, HO_25, BK151, HB, HO168⟩ := n_; clear ho hb hg hat))
                  go_roundg k3
                  case measure => have := HK1.out; have := HJ13.out; have := HK3.out; omega
                  case rel => exact ⟨(y166), (wrap64 (x46_3 + 1)), rq, H', ⟨by have := HK1.out; have := HJ13.out; have := HK3.out; omega⟩, ⟨rU HO_6.out⟩, ⟨rU HO168.out⟩, ⟨rU HO_25.out⟩, ⟨bU BK151.out⟩, ⟨bl⟩⟩
                 ·rw [if_neg c28] at H
                  exact absurd H (by simp)
               ·rw [if_neg c23] at H
                exact absurd H (by simp)
              ·rw [if_neg c22] at H
               exact absurd H (by simp)
             ·rw [if_neg c21] at H
              have c21b0 := decide_eq_false c21
              clear c21
              have H' := Aside0.mk H
              clear H
              go_wp2
              go_roundg k3
              case measure => have := HK1.out; have := HJ13.out; have := HK3.out; omega
              case rel => exact ⟨(x7_3), (wrap64 (x27_1 + 1)), (x152000_1), (x152001_1), rq, H', ⟨by have := HK1.out; have := HJ13.out; have := HK3.out; omega⟩, ⟨rU HO_6.out⟩, ⟨rU HO_7.out⟩, ⟨rU HO_25.out⟩, ⟨bU BK151.out⟩, ⟨bl⟩⟩
       ·rw [if_neg c13] at H
        exact absurd H (by simp)
      ·rw [if_neg c12] at H
       exact absurd H (by simp)
     ·rw [if_neg c11] at H
      have c11b0 := decide_eq_false c11
      clear c11
      by_cases c30 : 0 < (t154.length : Int)
      ·rw [if_pos c30] at H
       have c30b0 := decide_eq_true c30
       have c30b1 : decide (0 < t154.length) = true := decide_eq_true (by omega)
       clear c30
       replace H := Option.bind_eq_some_iff.mp H
       obtain ⟨t158, A310, H⟩ := H
       replace H : (if t158 = true then (some (((rdOf ByteArray.empty t154 0).size : Int), (t154.length : Int), x7_1, 0)) else (some (0, 0, ([] : List Int), 4))) = some (r1, r2, r3, r4) := H
       have A31 := Aside0.mk A310
       clear A310
       by_cases c32 : t158 = true
       ·subst c32
        have H1 : (some (((rdOf ByteArray.empty t154 0).size : Int), (t154.length : Int), x7_1, 0)) = some (r1, r2, r3, r4) := by rw [if_pos rfl] at H; exact H
        clear H
        have H := H1
        clear H1
        simp only [Option.some.injEq, Prod.mk.injEq] at H
        obtain ⟨rfl, rfl, rfl, rfl⟩ := H
        have p157 : 0 ≤ (0 : Int) := (by omega)
        have q157 : 0 < (t154.length : Int) := dt
        obtain ⟨ad157, e157, hx157_0⟩ := Kd.at_string (Kd.R_reads' HO_6.out).2.2 0 p157 q157
        cases e157
        have qi157 : (0 < t154.length) = True := eq_true (by omega)
        (try rw [show ((0 : Int)).toNat = 0 from rfl] at hx157_0)
        (try rw [Addr.add_zero'] at hx157_0)
        replace p157 := eq_true p157
        replace q157 := eq_true q157
        go_wp2_with (first | ((with_reducible refine gf 22 rfl ?_); refine gL (some 65) rfl rfl Tryd.func22 rfl #[.int .i64 ((rdOf ByteArray.empty t154 0).size : Int), .int .i64 (t154.length : Int)] rfl ?_; (with_reducible refine (bitmap_fits.calls ((rdOf ByteArray.empty t154 0).size : Int) (t154.length : Int) true _ A31.out).mono ?_); rintro e w' ⟨rfl, ⟨nd, rfl⟩⟩; refine ⟨_, rfl, ?_⟩; (try (rw [drewN_self wr]; generalize hq_ : World.drewN wr _ = wr; have n0_ : Aside0 (Kd.R Kd.string 9 wr w.heap.size (fun _ => True) (.slice (some ad157) t154.length co10) t154) := ⟨by rw [← hq_]; exact (rU HO_25.out)⟩; have n1_ : Aside0 (Kd.R Kd.string 9 wr w.heap.size (fun _ => True) (.slice (some ad157) t154.length co10) t154) := ⟨by rw [← hq_]; exact (rU HO_6.out)⟩; have n2_ : Aside0 (Kd.R (Kd.int .u8) 5 wr w.heap.size (fun _ => True) u7 x7_1) := ⟨by rw [← hq_]; exact (rU HO_7.out)⟩; have n3_ : Aside0 (wr.heap[gb151]? = some (.cells #[.int .i64 x152000_1, .int .i64 x152001_1, .slice none 0 0] 24 (0, 0))) := ⟨by rw [← hq_]; exact (bU BK151.out)⟩; have n4_ : Aside0 (Below w.heap.size w wr) := ⟨by rw [← hq_]; exact bl⟩; clear HO_25 HO_6 HO_7 BK151 HB hq_; have HO_25 := n0_; have HO_6 := n1_; have HO_7 := n2_; have BK151 := n3_; have HB := n4_; clear n0_ n1_ n2_ n3_ n4_)); obtain ⟨_, _, _, _, _, _⟩ := cz3f BK151.out; have p159 : 0 ≤ (0 : Int) := (by omega); have q159 : 0 < (t154.length : Int) := dt; obtain ⟨ad159, e159, hx159_0⟩ := Kd.at_string (Kd.R_reads' HO_6.out).2.2 0 p159 q159; obtain rfl : ad157 = ad159 := (by injection e159); have qi159 : (0 < t154.length) = True := eq_true (by omega); (try rw [show ((0 : Int)).toNat = 0 from rfl] at hx159_0); (try rw [Addr.add_zero'] at hx159_0); replace p159 := eq_true p159; replace q159 := eq_true q159; obtain ⟨Ao33, co33, eo33⟩ := Kd.R_slice HO_7.out; subst eo33; obtain ⟨hcz34_0, hcz34_1, hcz34_2, hfz34_0, hfz34_1, hfz34_2⟩ := cz3f BK151.out))
        refine bodyPost_ret (results_ct rfl _ _ gb151 24 #[.int .i64 ((rdOf ByteArray.empty t154 0).size : Int), .int .i64 (t154.length : Int), .slice Ao33 x7_1.length co33] (0, 0) _ rfl (by (with_reducible repeat (first | refine blk_drewN ?_ _ | refine blk_drew ?_ | refine blk_alloc ?_ _)); refine blk_put (cs := #[.int .i64 ((rdOf ByteArray.empty t154 0).size : Int), .int .i64 (t154.length : Int), .slice none 0 0]) ?_ 2 _ rfl; (with_reducible repeat (first | refine blk_drewN ?_ _ | refine blk_drew ?_ | refine blk_alloc ?_ _)); refine blk_put (cs := #[.int .i64 ((rdOf ByteArray.empty t154 0).size : Int), .int .i64 x152001_1, .slice none 0 0]) ?_ 1 _ rfl; (with_reducible repeat (first | refine blk_drewN ?_ _ | refine blk_drew ?_ | refine blk_alloc ?_ _)); refine blk_put (cs := #[.int .i64 x152000_1, .int .i64 x152001_1, .slice none 0 0]) ?_ 0 _ rfl; (with_reducible repeat (first | refine blk_drewN ?_ _ | refine blk_drew ?_ | refine blk_alloc ?_ _)); exact BK151.out) Tryd.underlying24 rfl (by kernel_rfl)) rfl ?_
        exact ⟨_, re, rU (Kd.R_mono (Kd.R_far (p := ⟨gb151, 2, none⟩) (Kd.R_far (p := ⟨gb151, 1, none⟩) (Kd.R_far (p := ⟨gb151, 0, none⟩) (Kd.R_types HO_7.out BK151.out (by decide)) (fun _ hk => hk.2) (.int .i64 ((rdOf ByteArray.empty t154 0).size : Int))) (fun _ hk => hk.2) (.int .i64 (t154.length : Int))) (fun _ hk => hk.2) (.slice Ao33 x7_1.length co33)) (fun _ hk => trivial)), bl⟩
       ·replace c32 := Bool.eq_false_iff.mpr c32
        subst c32
        have H1 : (some (0, 0, ([] : List Int), 4)) = some (r1, r2, r3, r4) := by rw [if_neg (show ¬ (false = true) by decide)] at H; exact H
        clear H
        have H := H1
        clear H1
        simp only [Option.some.injEq, Prod.mk.injEq] at H
        obtain ⟨rfl, rfl, rfl, rfl⟩ := H
        have p157 : 0 ≤ (0 : Int) := (by omega)
        have q157 : 0 < (t154.length : Int) := dt
        obtain ⟨ad157, e157, hx157_0⟩ := Kd.at_string (Kd.R_reads' HO_6.out).2.2 0 p157 q157
        cases e157
        have qi157 : (0 < t154.length) = True := eq_true (by omega)
        (try rw [show ((0 : Int)).toNat = 0 from rfl] at hx157_0)
        (try rw [Addr.add_zero'] at hx157_0)
        replace p157 := eq_true p157
        replace q157 := eq_true q157
        go_wp2_with (first | ((with_reducible refine gf 22 rfl ?_); refine gL (some 65) rfl rfl Tryd.func22 rfl #[.int .i64 ((rdOf ByteArray.empty t154 0).size : Int), .int .i64 (t154.length : Int)] rfl ?_; (with_reducible refine (bitmap_fits.calls ((rdOf ByteArray.empty t154 0).size : Int) (t154.length : Int) false _ A31.out).mono ?_); rintro e w' ⟨rfl, ⟨nd, rfl⟩⟩; refine ⟨_, rfl, ?_⟩; (try (rw [drewN_self wr]; generalize hq_ : World.drewN wr _ = wr; have n0_ : Aside0 (Kd.R Kd.string 9 wr w.heap.size (fun _ => True) (.slice (some ad157) t154.length co10) t154) := ⟨by rw [← hq_]; exact (rU HO_25.out)⟩; have n1_ : Aside0 (Kd.R Kd.string 9 wr w.heap.size (fun _ => True) (.slice (some ad157) t154.length co10) t154) := ⟨by rw [← hq_]; exact (rU HO_6.out)⟩; have n2_ : Aside0 (Kd.R (Kd.int .u8) 5 wr w.heap.size (fun _ => True) u7 x7_1) := ⟨by rw [← hq_]; exact (rU HO_7.out)⟩; have n3_ : Aside0 (wr.heap[gb151]? = some (.cells #[.int .i64 x152000_1, .int .i64 x152001_1, .slice none 0 0] 24 (0, 0))) := ⟨by rw [← hq_]; exact (bU BK151.out)⟩; have n4_ : Aside0 (Below w.heap.size w wr) := ⟨by rw [← hq_]; exact bl⟩; clear HO_25 HO_6 HO_7 BK151 HB hq_; have HO_25 := n0_; have HO_6 := n1_; have HO_7 := n2_; have BK151 := n3_; have HB := n4_; clear n0_ n1_ n2_ n3_ n4_)); obtain ⟨_, _, _, _, _, _⟩ := cz3f BK151.out; obtain ⟨hcz35_0, hcz35_1, hcz35_2, hfz35_0, hfz35_1, hfz35_2⟩ := cz3f BK151.out))
        refine bodyPost_ret (results_ct rfl _ _ gb151 24 #[.int .i64 0, .int .i64 0, .slice none 0 0] (0, 0) _ rfl (by (with_reducible repeat (first | refine blk_drewN ?_ _ | refine blk_drew ?_ | refine blk_alloc ?_ _)); refine blk_put (cs := #[.int .i64 0, .int .i64 0, .slice none 0 0]) ?_ 2 _ rfl; (with_reducible repeat (first | refine blk_drewN ?_ _ | refine blk_drew ?_ | refine blk_alloc ?_ _)); refine blk_put (cs := #[.int .i64 0, .int .i64 x152001_1, .slice none 0 0]) ?_ 1 _ rfl; (with_reducible repeat (first | refine blk_drewN ?_ _ | refine blk_drew ?_ | refine blk_alloc ?_ _)); refine blk_put (cs := #[.int .i64 x152000_1, .int .i64 x152001_1, .slice none 0 0]) ?_ 0 _ rfl; (with_reducible repeat (first | refine blk_drewN ?_ _ | refine blk_drew ?_ | refine blk_alloc ?_ _)); exact BK151.out) Tryd.underlying24 rfl (by kernel_rfl)) rfl ?_
        exact ⟨_, re, by first | exact Kd.R_nil _ _ _ _ _ | exact Kd.N_nil _ _ _ _ _ | exact Kd.V_nil _ _ _ _ _ | exact Kd.Q_nil _ _ _ _ _ | exact Kd.S_nil _ _ _ _ _, bl⟩
      ·rw [if_neg c30] at H
       exact absurd H (by simp)
  ·replace c6 := Bool.eq_false_iff.mpr c6
   subst c6
   have H1 : (some (0, 0, ([] : List Int), 3)) = some (r1, r2, r3, r4) := by rw [if_neg (show ¬ (false = true) by decide)] at H; exact H
   clear H
   have H := H1
   clear H1
   simp only [Option.some.injEq, Prod.mk.injEq] at H
   obtain ⟨rfl, rfl, rfl, rfl⟩ := H
   go_enter Tryd.func9, Tryd.ntmps9
   go_wp2_with (first | ((with_reducible refine gd 2 rfl ?_); refine bx 2 #[.int .i64 0, .int .i64 0, .slice none 0 0] 24 rfl rfl ?_; intro gb151 hg w36 hbox hb; have n_ := aC (bs hb) (aC hbox (aC (gz hg) (aE (gz hg)))); clear HB; obtain ⟨HB, BK151, GW151, GE151⟩ := n_; clear hb hbox hg) | ((with_reducible refine gf 19 rfl ?_); refine gL (some 17) rfl rfl Tryd.func19 rfl #[.string a0, .string (⟨#[10]⟩ : ByteArray)] rfl ?_; (with_reducible refine (strings_CutSuffix.calls a0 (⟨#[10]⟩ : ByteArray) t152 false _ A5.out).mono ?_); rintro e w' ⟨rfl, ⟨nd, rfl⟩⟩; refine ⟨_, rfl, ?_⟩; (try (rw [drewN_self w36]; generalize hq_ : World.drewN w36 _ = w36; have n0_ : Aside0 (w36.heap[gb151]? = some (.cells #[.int .i64 0, .int .i64 0, .slice none 0 0] 24 (0, 0))) := ⟨by rw [← hq_]; exact (bU BK151.out)⟩; have n1_ : Aside0 (Below w.heap.size w w36) := ⟨by rw [← hq_]; exact bl⟩; clear BK151 HB hq_; have BK151 := n0_; have HB := n1_; clear n0_ n1_)); obtain ⟨hcz37_0, hcz37_1, hcz37_2, hfz37_0, hfz37_1, hfz37_2⟩ := cz3f BK151.out))
   refine bodyPost_ret (results_ct rfl _ _ gb151 24 #[.int .i64 0, .int .i64 0, .slice none 0 0] (0, 0) _ rfl (by (with_reducible repeat (first | refine blk_drewN ?_ _ | refine blk_drew ?_ | refine blk_alloc ?_ _)); refine blk_put (cs := #[.int .i64 0, .int .i64 0, .slice none 0 0]) ?_ 2 _ rfl; (with_reducible repeat (first | refine blk_drewN ?_ _ | refine blk_drew ?_ | refine blk_alloc ?_ _)); refine blk_put (cs := #[.int .i64 0, .int .i64 0, .slice none 0 0]) ?_ 1 _ rfl; (with_reducible repeat (first | refine blk_drewN ?_ _ | refine blk_drew ?_ | refine blk_alloc ?_ _)); refine blk_put (cs := #[.int .i64 0, .int .i64 0, .slice none 0 0]) ?_ 0 _ rfl; (with_reducible repeat (first | refine blk_drewN ?_ _ | refine blk_drew ?_ | refine blk_alloc ?_ _)); exact BK151.out) Tryd.underlying24 rfl (by kernel_rfl)) rfl ?_
   exact ⟨_, re, by first | exact Kd.R_nil _ _ _ _ _ | exact Kd.N_nil _ _ _ _ _ | exact Kd.V_nil _ _ _ _ _ | exact Kd.Q_nil _ _ _ _ _ | exact Kd.S_nil _ _ _ _ _, bl⟩

/-! ### incunableref05_Sides: function 23 -/
def incunableref05_Sides.f (a0 : Int) (a1 : Int) : Option (Bool) := if a0 ≥ 0 then (if a1 ≥ 0 then (if a0 ≤ 200 then (if a1 ≤ 200 then (some (decide ((wrap64 (a0 * a1)) ≤ 8192))) else (some false)) else (some false)) else (some false)) else (some false)
set_option maxHeartbeats 8000000 in
set_option maxRecDepth 100000 in
theorem incunableref05_Sides.calls (a0 : Int) (a1 : Int) (r : Bool) (w : World) (h : incunableref05_Sides.f a0 a1 = some r) :
  Calls Tryd.prog 23 #[.int .i64 a0, .int .i64 a1] w fun e w' => e = .returned (.bool r) ∧ Drawn0 w w' := by
 have H : (if a0 ≥ 0 then (if a1 ≥ 0 then (if a0 ≤ 200 then (if a1 ≤ 200 then (some (decide ((wrap64 (a0 * a1)) ≤ 8192))) else (some false)) else (some false)) else (some false)) else (some false)) = some r := h
 clear h
 by_cases c3 : a0 ≥ 0
 ·rw [if_pos c3] at H
  have c3b0 := decide_eq_true c3
  clear c3
  by_cases c4 : a1 ≥ 0
  ·rw [if_pos c4] at H
   have c4b0 := decide_eq_true c4
   clear c4
   by_cases c5 : a0 ≤ 200
   ·rw [if_pos c5] at H
    have c5b0 := decide_eq_true c5
    clear c5
    by_cases c6 : a1 ≤ 200
    ·rw [if_pos c6] at H
     have c6b0 := decide_eq_true c6
     clear c6
     obtain rfl := Option.some.inj H
     go_enter Tryd.func23, Tryd.ntmps23
     go_wp2
     go_ret
     exact ⟨by first | rfl | (simp; done) | (simp [*]; done), by repeat (first | exact Drawn0.refl _ | apply Drawn0.step)⟩
    ·rw [if_neg c6] at H
     have c6b0 := decide_eq_false c6
     clear c6
     obtain rfl := Option.some.inj H
     go_enter Tryd.func23, Tryd.ntmps23
     go_wp2
     go_ret
     exact ⟨by first | rfl | (simp; done) | (simp [*]; done), by repeat (first | exact Drawn0.refl _ | apply Drawn0.step)⟩
   ·rw [if_neg c5] at H
    have c5b0 := decide_eq_false c5
    clear c5
    obtain rfl := Option.some.inj H
    go_enter Tryd.func23, Tryd.ntmps23
    go_wp2
    go_ret
    exact ⟨by first | rfl | (simp; done) | (simp [*]; done), by repeat (first | exact Drawn0.refl _ | apply Drawn0.step)⟩
  ·rw [if_neg c4] at H
   have c4b0 := decide_eq_false c4
   clear c4
   obtain rfl := Option.some.inj H
   go_enter Tryd.func23, Tryd.ntmps23
   go_wp2
   go_ret
   exact ⟨by first | rfl | (simp; done) | (simp [*]; done), by repeat (first | exact Drawn0.refl _ | apply Drawn0.step)⟩
 ·rw [if_neg c3] at H
  have c3b0 := decide_eq_false c3
  clear c3
  obtain rfl := Option.some.inj H
  go_enter Tryd.func23, Tryd.ntmps23
  go_wp2
  go_ret
  exact ⟨by first | rfl | (simp; done) | (simp [*]; done), by repeat (first | exact Drawn0.refl _ | apply Drawn0.step)⟩

/-! ### incunableref05_Parse: function 11 -/
def incunableref05_Parse.l0 : Nat → ByteArray → Int → Int → Int → Int → List Int → Option (Int × Int × List Int × Int)
 | 0, _, _, _, _, _, _ => none
 | k + 1, x0, x5, x6, x171000, x171001, x171002 => if x6 < (x0.size : Int) then (if 0 ≤ x6 then (if (bt x0 x6) = 46 then (if x171002.length < 140737488355328 then (incunableref05_Parse.l0 k x0 (wrap64 (x5 + 1)) (wrap64 (x6 + 1)) x171000 x171001 (x171002 ++ [0])) else (none)) else (if (bt x0 x6) = 35 then (if x171002.length < 140737488355328 then (incunableref05_Parse.l0 k x0 (wrap64 (x5 + 1)) (wrap64 (x6 + 1)) x171000 x171001 (x171002 ++ [1])) else (none)) else (if (bt x0 x6) = 10 then (if x171001 > 0 then (if x5 = x171000 then (incunableref05_Parse.l0 k x0 0 (wrap64 (x6 + 1)) x5 (wrap64 (x171001 + 1)) x171002) else (some (0, 0, ([] : List Int), 3))) else (incunableref05_Parse.l0 k x0 0 (wrap64 (x6 + 1)) x5 (wrap64 (x171001 + 1)) x171002)) else (some (0, 0, ([] : List Int), 3))))) else (none)) else (if x5 > 0 then (some (0, 0, ([] : List Int), 3)) else ((incunableref05_Sides.f x171000 x171001).bind fun t177 => (if t177 = true then (some (x171000, x171001, x171002, 0)) else (some (0, 0, ([] : List Int), 4)))))
def incunableref05_Parse.f (k : Nat) (a0 : ByteArray) : Option (Int × Int × List Int × Int) := incunableref05_Parse.l0 k a0 0 0 0 0 ([] : List Int)
theorem incunableref05_Parse.mono_l : ∀ k, (∀ y0 y1 y2 y3 y4 y5, LeO (incunableref05_Parse.l0 k y0 y1 y2 y3 y4 y5) (incunableref05_Parse.l0 (k + 1) y0 y1 y2 y3 y4 y5))
 | 0 => fun _ _ _ _ _ _ r h => by simp [incunableref05_Parse.l0] at h
 | k + 1 => by
  have ih0 := incunableref05_Parse.mono_l k
  ·intro y0 y1 y2 y3 y4 y5
   unfold incunableref05_Parse.l0
   repeat' first
   | (with_reducible exact ih0 _ _ _ _ _ _)
   | (with_reducible first | exact LeO.refl _ | exact LeO.none _ | refine LeO.ite ?_ ?_ | refine LeO.bind ?_ (fun _ => ?_))
   | exact ih0 _ _ _ _ _ _
   | exact LeO.none _ | refine LeO.ite ?_ ?_ | refine LeO.bind ?_ (fun _ => ?_)
theorem incunableref05_Parse.mono : ∀ a0 k, LeO (incunableref05_Parse.f k a0) (incunableref05_Parse.f (k + 1) a0) := by
 intro a0 k
 have ih0 := incunableref05_Parse.mono_l k
 unfold incunableref05_Parse.f
 repeat' first
   | (with_reducible exact ih0 _ _ _ _ _ _)
   | (with_reducible first | exact LeO.refl _ | exact LeO.none _ | refine LeO.ite ?_ ?_ | refine LeO.bind ?_ (fun _ => ?_))
   | exact ih0 _ _ _ _ _ _
   | exact LeO.none _ | refine LeO.ite ?_ ?_ | refine LeO.bind ?_ (fun _ => ?_)
set_option maxHeartbeats 8000000 in
set_option maxRecDepth 100000 in
theorem incunableref05_Parse.calls (k : Nat) (a0 : ByteArray) (r1 : Int) (r2 : Int) (r3 : List Int) (r4 : Int) (w : World) (h : incunableref05_Parse.f k a0 = some (r1, r2, r3, r4)) :
  Calls Tryd.prog 11 #[.string a0] w fun e w' => ∃ v2_ : Value, e = .returned (.tuple #[.agg #[.int .i64 r1, .int .i64 r2, v2_], .int .i64 r4]) ∧ Kd.R (Kd.int .u8) 5 w' w.heap.size (fun _ => True) v2_ r3 ∧ Below w.heap.size w w' := by
 have hu24 := Tryd.underlying24
 have HB := Aside0.mk (Below.refl w.heap.size w)
 have H : (incunableref05_Parse.l0 k a0 0 0 0 0 ([] : List Int)) = some (r1, r2, r3, r4) := h
 clear h
 have H' := Aside0.mk H
 clear H
 go_enter Tryd.func11, Tryd.ntmps11
 go_wp2_with (first | ((with_reducible refine gd 2 rfl ?_); refine bx 2 #[.int .i64 0, .int .i64 0, .slice none 0 0] 24 rfl rfl ?_; intro gb169 hg w2 hbox hb; have n_ := aC (bs hb) (aC hbox (aC (gz hg) (aE (gz hg)))); clear HB; obtain ⟨HB, BK169, GW169, GE169⟩ := n_; clear hb hbox hg) | ((with_reducible refine gd 4 rfl ?_); refine bx 4 #[.int .i64 0, .int .i64 0, .slice none 0 0] 24 rfl rfl ?_; intro gb170 hg w3 hbox hb; have n_ := aC (blk_below (bU BK169.out) hb) (aC (bs hb) (aC hbox (aC (gz hg) (aC (gz hg) (aC (gn hg (bU BK169.out)) (aE (gm hg (bU BK169.out)))))))); clear BK169 HB; obtain ⟨BK169, HB, BK170, GW170, GE170, NB169_170, NB170_169⟩ := n_; clear hb hbox hg))
 go_loopg [5, 6] k (fun kq v5 v6 w' => ∃ (x5_1 : Int) (x6_1 : Int) (x170000_1 : Int) (x170001_1 : Int) (x171000_1 : Int) (x171001_1 : Int) (x171002_1 : List Int) (u171002 : Value), v5 = .int .i64 x5_1 ∧ v6 = .int .i64 x6_1 ∧ Aside0 (incunableref05_Parse.l0 kq a0 x5_1 x6_1 x171000_1 x171001_1 x171002_1 = some (r1, r2, r3, r4)) ∧ Aside0 (kq ≤ k) ∧ Aside0 (Kd.R (Kd.int .u8) 5 w' w.heap.size (fun _ => True) u171002 x171002_1) ∧ Aside0 (w'.heap[gb169]? = some (.cells #[.int .i64 x170000_1, .int .i64 x170001_1, (.slice none 0 0)] 24 (0, 0))) ∧ Aside0 (w'.heap[gb170]? = some (.cells #[.int .i64 x171000_1, .int .i64 x171001_1, u171002] 24 (0, 0))) ∧ Aside0 (Below w.heap.size w w'))
 case atStart => exact ⟨(0), (0), (0), (0), (0), (0), (([] : List Int)), (.slice none 0 0), rq, rq, H', ⟨Nat.le_refl _⟩, ⟨by first | exact Kd.R_nil _ _ _ _ _ | exact Kd.N_nil _ _ _ _ _ | exact Kd.V_nil _ _ _ _ _ | exact Kd.Q_nil _ _ _ _ _ | exact Kd.S_nil _ _ _ _ _⟩, ⟨bU BK169.out⟩, ⟨bU BK170.out⟩, ⟨bl⟩⟩
 case round =>
  clear H'
  obtain ⟨x5_1, x6_1, x170000_1, x170001_1, x171000_1, x171001_1, x171002_1, u171002, rfl, rfl, HA, HK1, HO_171002, BK169, BK170, HB⟩ := hrel
  cases gk with
  | zero => exact absurd HA.out (by simp [incunableref05_Parse.l0])
  | succ k1 =>
   have H := HA.out
   clear HA
   simp only [incunableref05_Parse.l0] at H
   by_cases c4 : x6_1 < (a0.size : Int)
   ·rw [if_pos c4] at H
    have c4b0 := decide_eq_true c4
    clear c4
    by_cases c5 : 0 ≤ x6_1
    ·rw [if_pos c5] at H
     have c5b0 := decide_eq_true c5
     clear c5
     by_cases c7 : (bt a0 x6_1) = 46
     ·rw [if_pos c7] at H
      have c7b0 := beq_iff_eq.mpr c7
      have c7b1 := bne_eq_false_iff_eq.mpr c7
      clear c7
      by_cases c8 : x171002_1.length < 140737488355328
      ·rw [if_pos c8] at H
       have LMc8 := Aside0.mk c8
       clear c8
       obtain ⟨y171, hy_⟩ : ∃ y_ : List Int, y_ = (x171002_1 ++ [0]) := ⟨_, rfl⟩
       replace H : (incunableref05_Parse.l0 k1 a0 (wrap64 (x5_1 + 1)) (wrap64 (x6_1 + 1)) x171000_1 x171001_1 y171) = some (r1, r2, r3, r4) := rh
       have Ny171 := aE hy_
       clear hy_
       have H' := Aside0.mk H
       clear H
       have p6 : 0 ≤ (x6_1 : Int) := dt
       have q6 : x6_1 < (a0.size : Int) := dt
       have hx6 := bt_at a0 x6_1
       replace p6 := eq_true p6
       replace q6 := eq_true q6
       have hnb9 := NB170_169.out
       have hnc9 := NB169_170.out
       obtain ⟨hcz10_0, hcz10_1, hcz10_2, hfz10_0, hfz10_1, hfz10_2⟩ := cz3f BK170.out
       go_wp2_with (first | ((with_reducible refine gate_builtin (b := .append) (xs := #[.tmp 20, .tmp 21]) rfl ?_); at_builtin; refine Kd.R_append (Kd.int .u8) (w0 := w) w.heap.size rfl (.tmp 20) (.tmp 21) 22 5 (.int .u8 0) 1 rfl Tryd.underlying22 info5 rfl (by decide) (by omega) u171002 x171002_1 0 [.int .u8 0] (fun _ => True) (fun _ => False) rfl rfl ?aP (fun _ hk => hk.elim) ?aF ?aO ?aB ?aS ?aL ?_; (case aP => exact rfl); (case aB => exact bl); (case aF => exact (fun _ _ => trivial)); (case aO => exact (rU HO_171002.out)); (case aS => exact bz); (case aL => have := LMc8.out; omega); intro v172 w11 ho hb hg hat; rw [← Ny171.out] at ho; have n_ := aC (blk_grown (bU BK169.out) hg (Kd.R_ne HO_171002.out BK169.out (by decide))) (aC (blk_grown (bU BK170.out) hg (Kd.R_ne HO_171002.out BK170.out (by decide))) (aC hb (aE ho))); clear BK169 BK170 HB HO_171002; obtain ⟨BK169, BK170, HB, HO173⟩ := n_; clear ho hb hg hat; obtain ⟨Ao12, co12, eo12⟩ := Kd.R_slice HO173.out; subst eo12; obtain ⟨hcz13_0, hcz13_1, hcz13_2, hfz13_0, hfz13_1, hfz13_2⟩ := cz3f BK170.out))
       go_roundg k1
       case measure => have := HK1.out; omega
       case rel => exact ⟨(wrap64 (x5_1 + 1)), (wrap64 (x6_1 + 1)), (x170000_1), (x170001_1), (x171000_1), (x171001_1), (y171), (.slice Ao12 y171.length co12), rq, rq, H', ⟨by have := HK1.out; omega⟩, ⟨rU (Kd.R_mono (Kd.R_far (p := ⟨gb170, 2, none⟩) (Kd.R_types HO173.out BK170.out (by decide)) (fun _ hk => hk.2) (.slice Ao12 y171.length co12)) (fun _ hk => trivial))⟩, ⟨by (with_reducible repeat (first | refine blk_drewN ?_ _ | refine blk_drew ?_ | refine blk_alloc ?_ _)); refine blk_far ?_ NB169_170.out _; (with_reducible repeat (first | refine blk_drewN ?_ _ | refine blk_drew ?_ | refine blk_alloc ?_ _)); exact BK169.out⟩, ⟨by (with_reducible repeat (first | refine blk_drewN ?_ _ | refine blk_drew ?_ | refine blk_alloc ?_ _)); refine blk_put (cs := #[.int .i64 x171000_1, .int .i64 x171001_1, u171002]) ?_ 2 _ rfl; (with_reducible repeat (first | refine blk_drewN ?_ _ | refine blk_drew ?_ | refine blk_alloc ?_ _)); exact BK170.out⟩, ⟨bl⟩⟩
      ·rw [if_neg c8] at H
       exact absurd H (by simp)
     ·rw [if_neg c7] at H
      have c7b0 := beq_eq_false_iff_ne.mpr c7
      have c7b1 := bne_iff_ne.mpr c7
      by_cases c14 : (bt a0 x6_1) = 35
      ·rw [if_pos c14] at H
       have c14b0 := beq_iff_eq.mpr c14
       have c14b1 := bne_eq_false_iff_eq.mpr c14
       clear c14
       by_cases c15 : x171002_1.length < 140737488355328
       ·rw [if_pos c15] at H
        have LMc15 := Aside0.mk c15
        clear c15
        obtain ⟨y174, hy_⟩ : ∃ y_ : List Int, y_ = (x171002_1 ++ [1]) := ⟨_, rfl⟩
        replace H : (incunableref05_Parse.l0 k1 a0 (wrap64 (x5_1 + 1)) (wrap64 (x6_1 + 1)) x171000_1 x171001_1 y174) = some (r1, r2, r3, r4) := rh
        have Ny174 := aE hy_
        clear hy_
        have H' := Aside0.mk H
        clear H
        have p6 : 0 ≤ (x6_1 : Int) := dt
        have q6 : x6_1 < (a0.size : Int) := dt
        have hx6 := bt_at a0 x6_1
        replace p6 := eq_true p6
        replace q6 := eq_true q6
        have hnb16 := NB170_169.out
        have hnc16 := NB169_170.out
        obtain ⟨hcz17_0, hcz17_1, hcz17_2, hfz17_0, hfz17_1, hfz17_2⟩ := cz3f BK170.out
        go_wp2_with (first | ((with_reducible refine gate_builtin (b := .append) (xs := #[.tmp 29, .tmp 30]) rfl ?_); at_builtin; refine Kd.R_append (Kd.int .u8) (w0 := w) w.heap.size rfl (.tmp 29) (.tmp 30) 22 5 (.int .u8 0) 1 rfl Tryd.underlying22 info5 rfl (by decide) (by omega) u171002 x171002_1 1 [.int .u8 1] (fun _ => True) (fun _ => False) rfl rfl ?aP (fun _ hk => hk.elim) ?aF ?aO ?aB ?aS ?aL ?_; (case aP => exact rfl); (case aB => exact bl); (case aF => exact (fun _ _ => trivial)); (case aO => exact (rU HO_171002.out)); (case aS => exact bz); (case aL => have := LMc15.out; omega); intro v175 w18 ho hb hg hat; rw [← Ny174.out] at ho; have n_ := aC (blk_grown (bU BK169.out) hg (Kd.R_ne HO_171002.out BK169.out (by decide))) (aC (blk_grown (bU BK170.out) hg (Kd.R_ne HO_171002.out BK170.out (by decide))) (aC hb (aE ho))); clear BK169 BK170 HB HO_171002; obtain ⟨BK169, BK170, HB, HO176⟩ := n_; clear ho hb hg hat; obtain ⟨Ao19, co19, eo19⟩ := Kd.R_slice HO176.out; subst eo19; obtain ⟨hcz20_0, hcz20_1, hcz20_2, hfz20_0, hfz20_1, hfz20_2⟩ := cz3f BK170.out))
        go_roundg k1
        case measure => have := HK1.out; omega
        case rel => exact ⟨(wrap64 (x5_1 + 1)), (wrap64 (x6_1 + 1)), (x170000_1), (x170001_1), (x171000_1), (x171001_1), (y174), (.slice Ao19 y174.length co19), rq, rq, H', ⟨by have := HK1.out; omega⟩, ⟨rU (Kd.R_mono (Kd.R_far (p := ⟨gb170, 2, none⟩) (Kd.R_types HO176.out BK170.out (by decide)) (fun _ hk => hk.2) (.slice Ao19 y174.length co19)) (fun _ hk => trivial))⟩, ⟨by (with_reducible repeat (first | refine blk_drewN ?_ _ | refine blk_drew ?_ | refine blk_alloc ?_ _)); refine blk_far ?_ NB169_170.out _; (with_reducible repeat (first | refine blk_drewN ?_ _ | refine blk_drew ?_ | refine blk_alloc ?_ _)); exact BK169.out⟩, ⟨by (with_reducible repeat (first | refine blk_drewN ?_ _ | refine blk_drew ?_ | refine blk_alloc ?_ _)); refine blk_put (cs := #[.int .i64 x171000_1, .int .i64 x171001_1, u171002]) ?_ 2 _ rfl; (with_reducible repeat (first | refine blk_drewN ?_ _ | refine blk_drew ?_ | refine blk_alloc ?_ _)); exact BK170.out⟩, ⟨bl⟩⟩
       ·rw [if_neg c15] at H
        exact absurd H (by simp)
      ·rw [if_neg c14] at H
       have c14b0 := beq_eq_false_iff_ne.mpr c14
       have c14b1 := bne_iff_ne.mpr c14
       by_cases c21 : (bt a0 x6_1) = 10
       ·rw [if_pos c21] at H
        have c21b0 := beq_iff_eq.mpr c21
        have c21b1 := bne_eq_false_iff_eq.mpr c21
        clear c21
        by_cases c22 : x171001_1 > 0
        ·rw [if_pos c22] at H
         have c22b0 := decide_eq_true c22
         clear c22
         by_cases c23 : x5_1 = x171000_1
         ·rw [if_pos c23] at H
          have c23b0 := beq_iff_eq.mpr c23
          have c23b1 := bne_eq_false_iff_eq.mpr c23
          clear c23
          have H' := Aside0.mk H
          clear H
          have p6 : 0 ≤ (x6_1 : Int) := dt
          have q6 : x6_1 < (a0.size : Int) := dt
          have hx6 := bt_at a0 x6_1
          replace p6 := eq_true p6
          replace q6 := eq_true q6
          have hnb24 := NB170_169.out
          have hnc24 := NB169_170.out
          obtain ⟨hcz25_0, hcz25_1, hcz25_2, hfz25_0, hfz25_1, hfz25_2⟩ := cz3f BK170.out
          go_wp2
          go_roundg k1
          case measure => have := HK1.out; omega
          case rel => exact ⟨(0), (wrap64 (x6_1 + 1)), (x170000_1), (x170001_1), (x5_1), (wrap64 (x171001_1 + 1)), (x171002_1), (u171002), rq, rq, H', ⟨by have := HK1.out; omega⟩, ⟨rU (Kd.R_mono (Kd.R_far (p := ⟨gb170, 1, none⟩) (Kd.R_far (p := ⟨gb170, 0, none⟩) (Kd.R_types HO_171002.out BK170.out (by decide)) (fun _ hk => hk.2) (.int .i64 x5_1)) (fun _ hk => hk.2) (.int .i64 (wrap64 (x171001_1 + 1)))) (fun _ hk => trivial))⟩, ⟨by (with_reducible repeat (first | refine blk_drewN ?_ _ | refine blk_drew ?_ | refine blk_alloc ?_ _)); refine blk_far ?_ NB169_170.out _; (with_reducible repeat (first | refine blk_drewN ?_ _ | refine blk_drew ?_ | refine blk_alloc ?_ _)); refine blk_far ?_ NB169_170.out _; (with_reducible repeat (first | refine blk_drewN ?_ _ | refine blk_drew ?_ | refine blk_alloc ?_ _)); exact BK169.out⟩, ⟨by (with_reducible repeat (first | refine blk_drewN ?_ _ | refine blk_drew ?_ | refine blk_alloc ?_ _)); refine blk_put (cs := #[.int .i64 x5_1, .int .i64 x171001_1, u171002]) ?_ 1 _ rfl; (with_reducible repeat (first | refine blk_drewN ?_ _ | refine blk_drew ?_ | refine blk_alloc ?_ _)); refine blk_put (cs := #[.int .i64 x171000_1, .int .i64 x171001_1, u171002]) ?_ 0 _ rfl; (with_reducible repeat (first | refine blk_drewN ?_ _ | refine blk_drew ?_ | refine blk_alloc ?_ _)); exact BK170.out⟩, ⟨bl⟩⟩
         ·rw [if_neg c23] at H
          have c23b0 := beq_eq_false_iff_ne.mpr c23
          have c23b1 := bne_iff_ne.mpr c23
          simp only [Option.some.injEq, Prod.mk.injEq] at H
          obtain ⟨rfl, rfl, rfl, rfl⟩ := H
          have p6 : 0 ≤ (x6_1 : Int) := dt
          have q6 : x6_1 < (a0.size : Int) := dt
          have hx6 := bt_at a0 x6_1
          replace p6 := eq_true p6
          replace q6 := eq_true q6
          have hnb26 := NB170_169.out
          have hnc26 := NB169_170.out
          obtain ⟨hcz27_0, hcz27_1, hcz27_2, hfz27_0, hfz27_1, hfz27_2⟩ := cz3f BK170.out
          obtain ⟨hcz28_0, hcz28_1, hcz28_2, hfz28_0, hfz28_1, hfz28_2⟩ := cz3f BK169.out
          go_wp2
          refine bodyPost_ret (results_ct rfl _ _ gb169 24 #[.int .i64 0, .int .i64 0, .slice none 0 0] (0, 0) _ rfl (by (with_reducible repeat (first | refine blk_drewN ?_ _ | refine blk_drew ?_ | refine blk_alloc ?_ _)); refine blk_put (cs := #[.int .i64 0, .int .i64 0, .slice none 0 0]) ?_ 2 _ rfl; (with_reducible repeat (first | refine blk_drewN ?_ _ | refine blk_drew ?_ | refine blk_alloc ?_ _)); refine blk_put (cs := #[.int .i64 0, .int .i64 x170001_1, .slice none 0 0]) ?_ 1 _ rfl; (with_reducible repeat (first | refine blk_drewN ?_ _ | refine blk_drew ?_ | refine blk_alloc ?_ _)); refine blk_put (cs := #[.int .i64 x170000_1, .int .i64 x170001_1, .slice none 0 0]) ?_ 0 _ rfl; (with_reducible repeat (first | refine blk_drewN ?_ _ | refine blk_drew ?_ | refine blk_alloc ?_ _)); exact BK169.out) Tryd.underlying24 rfl (by kernel_rfl)) rfl ?_
          exact ⟨_, re, by first | exact Kd.R_nil _ _ _ _ _ | exact Kd.N_nil _ _ _ _ _ | exact Kd.V_nil _ _ _ _ _ | exact Kd.Q_nil _ _ _ _ _ | exact Kd.S_nil _ _ _ _ _, bl⟩
        ·rw [if_neg c22] at H
         have c22b0 := decide_eq_false c22
         clear c22
         have H' := Aside0.mk H
         clear H
         have p6 : 0 ≤ (x6_1 : Int) := dt
         have q6 : x6_1 < (a0.size : Int) := dt
         have hx6 := bt_at a0 x6_1
         replace p6 := eq_true p6
         replace q6 := eq_true q6
         have hnb29 := NB170_169.out
         have hnc29 := NB169_170.out
         obtain ⟨hcz30_0, hcz30_1, hcz30_2, hfz30_0, hfz30_1, hfz30_2⟩ := cz3f BK170.out
         go_wp2
         go_roundg k1
         case measure => have := HK1.out; omega
         case rel => exact ⟨(0), (wrap64 (x6_1 + 1)), (x170000_1), (x170001_1), (x5_1), (wrap64 (x171001_1 + 1)), (x171002_1), (u171002), rq, rq, H', ⟨by have := HK1.out; omega⟩, ⟨rU (Kd.R_mono (Kd.R_far (p := ⟨gb170, 1, none⟩) (Kd.R_far (p := ⟨gb170, 0, none⟩) (Kd.R_types HO_171002.out BK170.out (by decide)) (fun _ hk => hk.2) (.int .i64 x5_1)) (fun _ hk => hk.2) (.int .i64 (wrap64 (x171001_1 + 1)))) (fun _ hk => trivial))⟩, ⟨by (with_reducible repeat (first | refine blk_drewN ?_ _ | refine blk_drew ?_ | refine blk_alloc ?_ _)); refine blk_far ?_ NB169_170.out _; (with_reducible repeat (first | refine blk_drewN ?_ _ | refine blk_drew ?_ | refine blk_alloc ?_ _)); refine blk_far ?_ NB169_170.out _; (with_reducible repeat (first | refine blk_drewN ?_ _ | refine blk_drew ?_ | refine blk_alloc ?_ _)); exact BK169.out⟩, ⟨by (with_reducible repeat (first | refine blk_drewN ?_ _ | refine blk_drew ?_ | refine blk_alloc ?_ _)); refine blk_put (cs := #[.int .i64 x5_1, .int .i64 x171001_1, u171002]) ?_ 1 _ rfl; (with_reducible repeat (first | refine blk_drewN ?_ _ | refine blk_drew ?_ | refine blk_alloc ?_ _)); refine blk_put (cs := #[.int .i64 x171000_1, .int .i64 x171001_1, u171002]) ?_ 0 _ rfl; (with_reducible repeat (first | refine blk_drewN ?_ _ | refine blk_drew ?_ | refine blk_alloc ?_ _)); exact BK170.out⟩, ⟨bl⟩⟩
       ·rw [if_neg c21] at H
        have c21b0 := beq_eq_false_iff_ne.mpr c21
        have c21b1 := bne_iff_ne.mpr c21
        simp only [Option.some.injEq, Prod.mk.injEq] at H
        obtain ⟨rfl, rfl, rfl, rfl⟩ := H
        have p6 : 0 ≤ (x6_1 : Int) := dt
        have q6 : x6_1 < (a0.size : Int) := dt
        have hx6 := bt_at a0 x6_1
        replace p6 := eq_true p6
        replace q6 := eq_true q6
        have hnb31 := NB169_170.out
        have hnc31 := NB170_169.out
        obtain ⟨hcz32_0, hcz32_1, hcz32_2, hfz32_0, hfz32_1, hfz32_2⟩ := cz3f BK169.out
        go_wp2
        refine bodyPost_ret (results_ct rfl _ _ gb169 24 #[.int .i64 0, .int .i64 0, .slice none 0 0] (0, 0) _ rfl (by (with_reducible repeat (first | refine blk_drewN ?_ _ | refine blk_drew ?_ | refine blk_alloc ?_ _)); refine blk_put (cs := #[.int .i64 0, .int .i64 0, .slice none 0 0]) ?_ 2 _ rfl; (with_reducible repeat (first | refine blk_drewN ?_ _ | refine blk_drew ?_ | refine blk_alloc ?_ _)); refine blk_put (cs := #[.int .i64 0, .int .i64 x170001_1, .slice none 0 0]) ?_ 1 _ rfl; (with_reducible repeat (first | refine blk_drewN ?_ _ | refine blk_drew ?_ | refine blk_alloc ?_ _)); refine blk_put (cs := #[.int .i64 x170000_1, .int .i64 x170001_1, .slice none 0 0]) ?_ 0 _ rfl; (with_reducible repeat (first | refine blk_drewN ?_ _ | refine blk_drew ?_ | refine blk_alloc ?_ _)); exact BK169.out) Tryd.underlying24 rfl (by kernel_rfl)) rfl ?_
        exact ⟨_, re, by first | exact Kd.R_nil _ _ _ _ _ | exact Kd.N_nil _ _ _ _ _ | exact Kd.V_nil _ _ _ _ _ | exact Kd.Q_nil _ _ _ _ _ | exact Kd.S_nil _ _ _ _ _, bl⟩
    ·rw [if_neg c5] at H
     exact absurd H (by simp)
   ·rw [if_neg c4] at H
    have c4b0 := decide_eq_false c4
    clear c4
    by_cases c33 : x5_1 > 0
    ·rw [if_pos c33] at H
     have c33b0 := decide_eq_true c33
     clear c33
     simp only [Option.some.injEq, Prod.mk.injEq] at H
     obtain ⟨rfl, rfl, rfl, rfl⟩ := H
     have hnb34 := NB169_170.out
     have hnc34 := NB170_169.out
     obtain ⟨hcz35_0, hcz35_1, hcz35_2, hfz35_0, hfz35_1, hfz35_2⟩ := cz3f BK169.out
     go_wp2
     refine bodyPost_ret (results_ct rfl _ _ gb169 24 #[.int .i64 0, .int .i64 0, .slice none 0 0] (0, 0) _ rfl (by (with_reducible repeat (first | refine blk_drewN ?_ _ | refine blk_drew ?_ | refine blk_alloc ?_ _)); refine blk_put (cs := #[.int .i64 0, .int .i64 0, .slice none 0 0]) ?_ 2 _ rfl; (with_reducible repeat (first | refine blk_drewN ?_ _ | refine blk_drew ?_ | refine blk_alloc ?_ _)); refine blk_put (cs := #[.int .i64 0, .int .i64 x170001_1, .slice none 0 0]) ?_ 1 _ rfl; (with_reducible repeat (first | refine blk_drewN ?_ _ | refine blk_drew ?_ | refine blk_alloc ?_ _)); refine blk_put (cs := #[.int .i64 x170000_1, .int .i64 x170001_1, .slice none 0 0]) ?_ 0 _ rfl; (with_reducible repeat (first | refine blk_drewN ?_ _ | refine blk_drew ?_ | refine blk_alloc ?_ _)); exact BK169.out) Tryd.underlying24 rfl (by kernel_rfl)) rfl ?_
     exact ⟨_, re, by first | exact Kd.R_nil _ _ _ _ _ | exact Kd.N_nil _ _ _ _ _ | exact Kd.V_nil _ _ _ _ _ | exact Kd.Q_nil _ _ _ _ _ | exact Kd.S_nil _ _ _ _ _, bl⟩
    ·rw [if_neg c33] at H
     have c33b0 := decide_eq_false c33
     clear c33
     replace H := Option.bind_eq_some_iff.mp H
     obtain ⟨t177, A360, H⟩ := H
     replace H : (if t177 = true then (some (x171000_1, x171001_1, x171002_1, 0)) else (some (0, 0, ([] : List Int), 4))) = some (r1, r2, r3, r4) := H
     have A36 := Aside0.mk A360
     clear A360
     by_cases c37 : t177 = true
     ·subst c37
      have H1 : (some (x171000_1, x171001_1, x171002_1, 0)) = some (r1, r2, r3, r4) := by rw [if_pos rfl] at H; exact H
      clear H
      have H := H1
      clear H1
      simp only [Option.some.injEq, Prod.mk.injEq] at H
      obtain ⟨rfl, rfl, rfl, rfl⟩ := H
      have hnb38 := NB170_169.out
      have hnc38 := NB169_170.out
      obtain ⟨hcz39_0, hcz39_1, hcz39_2, hfz39_0, hfz39_1, hfz39_2⟩ := cz3f BK170.out
      go_wp2_with (first | ((with_reducible refine gf 23 rfl ?_); refine gL (some 60) rfl rfl Tryd.func23 rfl #[.int .i64 x171000_1, .int .i64 x171001_1] rfl ?_; (with_reducible refine (incunableref05_Sides.calls x171000_1 x171001_1 true _ A36.out).mono ?_); rintro e w' ⟨rfl, ⟨nd, rfl⟩⟩; refine ⟨_, rfl, ?_⟩; (try (rw [drewN_self wr]; generalize hq_ : World.drewN wr _ = wr; have n0_ : Aside0 (Kd.R (Kd.int .u8) 5 wr w.heap.size (fun _ => True) u171002 x171002_1) := ⟨by rw [← hq_]; exact (rU HO_171002.out)⟩; have n1_ : Aside0 (wr.heap[gb169]? = some (.cells #[.int .i64 x170000_1, .int .i64 x170001_1, .slice none 0 0] 24 (0, 0))) := ⟨by rw [← hq_]; exact (bU BK169.out)⟩; have n2_ : Aside0 (wr.heap[gb170]? = some (.cells #[.int .i64 x171000_1, .int .i64 x171001_1, u171002] 24 (0, 0))) := ⟨by rw [← hq_]; exact (bU BK170.out)⟩; have n3_ : Aside0 (Below w.heap.size w wr) := ⟨by rw [← hq_]; exact bl⟩; clear HO_171002 BK169 BK170 HB hq_; have HO_171002 := n0_; have BK169 := n1_; have BK170 := n2_; have HB := n3_; clear n0_ n1_ n2_ n3_)); obtain ⟨_, _, _, _, _, _⟩ := cz3f BK169.out; obtain ⟨_, _, _, _, _, _⟩ := cz3f BK170.out; obtain ⟨hcz40_0, hcz40_1, hcz40_2, hfz40_0, hfz40_1, hfz40_2⟩ := cz3f BK169.out; obtain ⟨Ao41, co41, eo41⟩ := Kd.R_slice HO_171002.out; subst eo41))
      refine bodyPost_ret (results_ct rfl _ _ gb169 24 #[.int .i64 x171000_1, .int .i64 x171001_1, .slice Ao41 x171002_1.length co41] (0, 0) _ rfl (by (with_reducible repeat (first | refine blk_drewN ?_ _ | refine blk_drew ?_ | refine blk_alloc ?_ _)); refine blk_put (cs := #[.int .i64 x171000_1, .int .i64 x171001_1, .slice none 0 0]) ?_ 2 _ rfl; (with_reducible repeat (first | refine blk_drewN ?_ _ | refine blk_drew ?_ | refine blk_alloc ?_ _)); refine blk_put (cs := #[.int .i64 x171000_1, .int .i64 x170001_1, .slice none 0 0]) ?_ 1 _ rfl; (with_reducible repeat (first | refine blk_drewN ?_ _ | refine blk_drew ?_ | refine blk_alloc ?_ _)); refine blk_put (cs := #[.int .i64 x170000_1, .int .i64 x170001_1, .slice none 0 0]) ?_ 0 _ rfl; (with_reducible repeat (first | refine blk_drewN ?_ _ | refine blk_drew ?_ | refine blk_alloc ?_ _)); exact BK169.out) Tryd.underlying24 rfl (by kernel_rfl)) rfl ?_
      exact ⟨_, re, rU (Kd.R_mono (Kd.R_far (p := ⟨gb169, 2, none⟩) (Kd.R_far (p := ⟨gb169, 1, none⟩) (Kd.R_far (p := ⟨gb169, 0, none⟩) (Kd.R_types HO_171002.out BK169.out (by decide)) (fun _ hk => hk.2) (.int .i64 x171000_1)) (fun _ hk => hk.2) (.int .i64 x171001_1)) (fun _ hk => hk.2) (.slice Ao41 x171002_1.length co41)) (fun _ hk => trivial)), bl⟩
     ·replace c37 := Bool.eq_false_iff.mpr c37
      subst c37
      have H1 : (some (0, 0, ([] : List Int), 4)) = some (r1, r2, r3, r4) := by rw [if_neg (show ¬ (false = true) by decide)] at H; exact H
      clear H
      have H := H1
      clear H1
      simp only [Option.some.injEq, Prod.mk.injEq] at H
      obtain ⟨rfl, rfl, rfl, rfl⟩ := H
      have hnb42 := NB170_169.out
      have hnc42 := NB169_170.out
      obtain ⟨hcz43_0, hcz43_1, hcz43_2, hfz43_0, hfz43_1, hfz43_2⟩ := cz3f BK170.out
      go_wp2_with (first | ((with_reducible refine gf 23 rfl ?_); refine gL (some 60) rfl rfl Tryd.func23 rfl #[.int .i64 x171000_1, .int .i64 x171001_1] rfl ?_; (with_reducible refine (incunableref05_Sides.calls x171000_1 x171001_1 false _ A36.out).mono ?_); rintro e w' ⟨rfl, ⟨nd, rfl⟩⟩; refine ⟨_, rfl, ?_⟩; (try (rw [drewN_self wr]; generalize hq_ : World.drewN wr _ = wr; have n0_ : Aside0 (Kd.R (Kd.int .u8) 5 wr w.heap.size (fun _ => True) u171002 x171002_1) := ⟨by rw [← hq_]; exact (rU HO_171002.out)⟩; have n1_ : Aside0 (wr.heap[gb169]? = some (.cells #[.int .i64 x170000_1, .int .i64 x170001_1, .slice none 0 0] 24 (0, 0))) := ⟨by rw [← hq_]; exact (bU BK169.out)⟩; have n2_ : Aside0 (wr.heap[gb170]? = some (.cells #[.int .i64 x171000_1, .int .i64 x171001_1, u171002] 24 (0, 0))) := ⟨by rw [← hq_]; exact (bU BK170.out)⟩; have n3_ : Aside0 (Below w.heap.size w wr) := ⟨by rw [← hq_]; exact bl⟩; clear HO_171002 BK169 BK170 HB hq_; have HO_171002 := n0_; have BK169 := n1_; have BK170 := n2_; have HB := n3_; clear n0_ n1_ n2_ n3_)); obtain ⟨_, _, _, _, _, _⟩ := cz3f BK169.out; obtain ⟨_, _, _, _, _, _⟩ := cz3f BK170.out; obtain ⟨hcz44_0, hcz44_1, hcz44_2, hfz44_0, hfz44_1, hfz44_2⟩ := cz3f BK169.out))
      refine bodyPost_ret (results_ct rfl _ _ gb169 24 #[.int .i64 0, .int .i64 0, .slice none 0 0] (0, 0) _ rfl (by (with_reducible repeat (first | refine blk_drewN ?_ _ | refine blk_drew ?_ | refine blk_alloc ?_ _)); refine blk_put (cs := #[.int .i64 0, .int .i64 0, .slice none 0 0]) ?_ 2 _ rfl; (with_reducible repeat (first | refine blk_drewN ?_ _ | refine blk_drew ?_ | refine blk_alloc ?_ _)); refine blk_put (cs := #[.int .i64 0, .int .i64 x170001_1, .slice none 0 0]) ?_ 1 _ rfl; (with_reducible repeat (first | refine blk_drewN ?_ _ | refine blk_drew ?_ | refine blk_alloc ?_ _)); refine blk_put (cs := #[.int .i64 x170000_1, .int .i64 x170001_1, .slice none 0 0]) ?_ 0 _ rfl; (with_reducible repeat (first | refine blk_drewN ?_ _ | refine blk_drew ?_ | refine blk_alloc ?_ _)); exact BK169.out) Tryd.underlying24 rfl (by kernel_rfl)) rfl ?_
      exact ⟨_, re, by first | exact Kd.R_nil _ _ _ _ _ | exact Kd.N_nil _ _ _ _ _ | exact Kd.V_nil _ _ _ _ _ | exact Kd.Q_nil _ _ _ _ _ | exact Kd.S_nil _ _ _ _ _, bl⟩

end Go.Proofs.YtgcjhpcegmblgaaDoor.PBitmapParses
