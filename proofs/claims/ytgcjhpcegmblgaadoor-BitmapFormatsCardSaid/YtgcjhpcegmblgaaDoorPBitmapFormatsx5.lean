-- Written by a program of this session (wip/tools/myprint.py) over the kit's print. Not trusted: Lean checks it.
import Derived.Test.YtgcjhpcegmblgaaDoorPBitmapFormatsx0
import Derived.Test.YtgcjhpcegmblgaaDoorPBitmapFormatsx1
import Derived.Test.YtgcjhpcegmblgaaDoorPBitmapFormatsx3
import Derived.Test.YtgcjhpcegmblgaaDoorPBitmapFormatsx4
namespace Go.Proofs.YtgcjhpcegmblgaaDoor.PBitmapFormats
open Go.RowKit Go.Proofs.YtgcjhpcegmblgaaDoorW.PrintWords Go.Proofs.YtgcjhpcegmblgaaDoorW.PrintLast Go.Proofs.YtgcjhpcegmblgaaDoorW.PrintMore
attribute [local go_sem] max2_int min2_int max_two min_two max_three min_three max_four min_four   -- for this text's walks alone
set_option linter.unusedVariables false
set_option linter.unusedSimpArgs false

/-! ### bitmap_Parse: function 9 -/
mutual
def bitmap_Parse.l0 : Nat → List ByteArray → List Int → List ByteArray → Int → Int → Option (Int × Int × List Int × Int)
 | 0, _, _, _, _, _ => none
 | k + 1, x6, x7, x25, x26, x27 => if x27 < x26 then (if 0 ≤ x27 then (if x27 < (x25.length : Int) then (if 0 < (x6.length : Int) then (if ((rdOf ByteArray.empty x25 x27).size : Int) = ((rdOf ByteArray.empty x6 0).size : Int) then ((strings_Trim.f (rdOf ByteArray.empty x25 x27) (⟨#[46, 35]⟩ : ByteArray)).bind fun t179 => (bitmap_Parse.j1 k x6 x7 (rdOf ByteArray.empty x25 x27) x25 x26 x27 (t179.toList != ([] : List UInt8)))) else (bitmap_Parse.j1 k x6 x7 (rdOf ByteArray.empty x25 x27) x25 x26 x27 true)) else (none)) else (none)) else (none)) else (if 0 < (x6.length : Int) then ((bitmap_fits.f ((rdOf ByteArray.empty x6 0).size : Int) (x6.length : Int)).bind fun t175 => (if t175 = true then (some (((rdOf ByteArray.empty x6 0).size : Int), (x6.length : Int), x7, 0)) else (some (0, 0, ([] : List Int), 4)))) else (none))
def bitmap_Parse.j1 : Nat → List ByteArray → List Int → ByteArray → List ByteArray → Int → Int → Bool → Option (Int × Int × List Int × Int)
 | 0, _, _, _, _, _, _, _ => none
 | k + 1, x6, x7, x9, x25, x26, x27, x42 => if x42 = true then (some (0, 0, ([] : List Int), 3)) else (bitmap_Parse.l1 k x6 x7 x9 x25 x26 x27 (x9.size : Int) 0)
def bitmap_Parse.l1 : Nat → List ByteArray → List Int → ByteArray → List ByteArray → Int → Int → Int → Int → Option (Int × Int × List Int × Int)
 | 0, _, _, _, _, _, _, _, _ => none
 | k + 1, x6, x7, x9, x25, x26, x27, x45, x46 => if x46 < x45 then (if 0 ≤ x46 then (if x46 < (x9.size : Int) then (if (bt x9 x46) = 35 then (if x7.length < 140737488355328 then (bitmap_Parse.l1 k x6 (x7 ++ [1]) x9 x25 x26 x27 x45 (wrap64 (x46 + 1))) else (none)) else (if x7.length < 140737488355328 then (bitmap_Parse.l1 k x6 (x7 ++ [0]) x9 x25 x26 x27 x45 (wrap64 (x46 + 1))) else (none))) else (none)) else (none)) else (bitmap_Parse.l0 k x6 x7 x25 x26 (wrap64 (x27 + 1)))
end
def bitmap_Parse.f (k : Nat) (a0 : ByteArray) : Option (Int × Int × List Int × Int) := if a0.toList = ([] : List UInt8) then (some (0, 0, ([] : List Int), 0)) else ((strings_CutSuffix.f a0 (⟨#[10]⟩ : ByteArray)).bind fun bt169 => (if bt169.2 = true then ((strings_Split.f bt169.1 (⟨#[10]⟩ : ByteArray)).bind fun t171 => (bitmap_Parse.l0 k t171 ([] : List Int) t171 (t171.length : Int) 0)) else (some (0, 0, ([] : List Int), 3))))
theorem bitmap_Parse.mono_l : ∀ k, (∀ y0 y1 y2 y3 y4, LeO (bitmap_Parse.l0 k y0 y1 y2 y3 y4) (bitmap_Parse.l0 (k + 1) y0 y1 y2 y3 y4)) ∧ (∀ y0 y1 y2 y3 y4 y5 y6, LeO (bitmap_Parse.j1 k y0 y1 y2 y3 y4 y5 y6) (bitmap_Parse.j1 (k + 1) y0 y1 y2 y3 y4 y5 y6)) ∧ (∀ y0 y1 y2 y3 y4 y5 y6 y7, LeO (bitmap_Parse.l1 k y0 y1 y2 y3 y4 y5 y6 y7) (bitmap_Parse.l1 (k + 1) y0 y1 y2 y3 y4 y5 y6 y7))
 | 0 => ⟨fun _ _ _ _ _ r h => by simp [bitmap_Parse.l0] at h, fun _ _ _ _ _ _ _ r h => by simp [bitmap_Parse.j1] at h, fun _ _ _ _ _ _ _ _ r h => by simp [bitmap_Parse.l1] at h⟩
 | k + 1 => by
  obtain ⟨ih0, ih1, ih2⟩ := bitmap_Parse.mono_l k
  refine ⟨?_, ?_, ?_⟩
  ·intro y0 y1 y2 y3 y4
   unfold bitmap_Parse.l0
   repeat' first
   | (with_reducible exact ih0 _ _ _ _ _)
   | (with_reducible exact ih1 _ _ _ _ _ _ _)
   | (with_reducible exact ih2 _ _ _ _ _ _ _ _)
   | (with_reducible first | exact LeO.refl _ | exact LeO.none _ | refine LeO.ite ?_ ?_ | refine LeO.bind ?_ (fun _ => ?_))
   | exact ih0 _ _ _ _ _
   | exact ih1 _ _ _ _ _ _ _
   | exact ih2 _ _ _ _ _ _ _ _
   | exact LeO.none _ | refine LeO.ite ?_ ?_ | refine LeO.bind ?_ (fun _ => ?_)
  ·intro y0 y1 y2 y3 y4 y5 y6
   unfold bitmap_Parse.j1
   repeat' first
   | (with_reducible exact ih0 _ _ _ _ _)
   | (with_reducible exact ih1 _ _ _ _ _ _ _)
   | (with_reducible exact ih2 _ _ _ _ _ _ _ _)
   | (with_reducible first | exact LeO.refl _ | exact LeO.none _ | refine LeO.ite ?_ ?_ | refine LeO.bind ?_ (fun _ => ?_))
   | exact ih0 _ _ _ _ _
   | exact ih1 _ _ _ _ _ _ _
   | exact ih2 _ _ _ _ _ _ _ _
   | exact LeO.none _ | refine LeO.ite ?_ ?_ | refine LeO.bind ?_ (fun _ => ?_)
  ·intro y0 y1 y2 y3 y4 y5 y6 y7
   unfold bitmap_Parse.l1
   repeat' first
   | (with_reducible exact ih0 _ _ _ _ _)
   | (with_reducible exact ih1 _ _ _ _ _ _ _)
   | (with_reducible exact ih2 _ _ _ _ _ _ _ _)
   | (with_reducible first | exact LeO.refl _ | exact LeO.none _ | refine LeO.ite ?_ ?_ | refine LeO.bind ?_ (fun _ => ?_))
   | exact ih0 _ _ _ _ _
   | exact ih1 _ _ _ _ _ _ _
   | exact ih2 _ _ _ _ _ _ _ _
   | exact LeO.none _ | refine LeO.ite ?_ ?_ | refine LeO.bind ?_ (fun _ => ?_)
theorem bitmap_Parse.mono : ∀ a0 k, LeO (bitmap_Parse.f k a0) (bitmap_Parse.f (k + 1) a0) := by
 intro a0 k
 obtain ⟨ih0, ih1, ih2⟩ := bitmap_Parse.mono_l k
 unfold bitmap_Parse.f
 repeat' first
   | (with_reducible exact ih0 _ _ _ _ _)
   | (with_reducible exact ih1 _ _ _ _ _ _ _)
   | (with_reducible exact ih2 _ _ _ _ _ _ _ _)
   | (with_reducible first | exact LeO.refl _ | exact LeO.none _ | refine LeO.ite ?_ ?_ | refine LeO.bind ?_ (fun _ => ?_))
   | exact ih0 _ _ _ _ _
   | exact ih1 _ _ _ _ _ _ _
   | exact ih2 _ _ _ _ _ _ _ _
   | exact LeO.none _ | refine LeO.ite ?_ ?_ | refine LeO.bind ?_ (fun _ => ?_)
set_option maxHeartbeats 8000000 in
set_option maxRecDepth 100000 in
theorem bitmap_Parse.calls (k : Nat) (a0 : ByteArray) (r1 : Int) (r2 : Int) (r3 : List Int) (r4 : Int) (w : World) (hT0 : TIs w) (h : bitmap_Parse.f k a0 = some (r1, r2, r3, r4)) :
  Calls Tryd.prog 9 #[.string a0] w fun e w' => ∃ v2_ : Value, e = .returned (.tuple #[.agg #[.int .i64 r1, .int .i64 r2, v2_], .int .i64 r4]) ∧ Kd.R (Kd.int .u8) 5 w' w.heap.size (fun _ => True) v2_ r3 ∧ Below w.heap.size w w' := by
 have HTI := Aside0.mk hT0
 clear hT0
 have hu24 := Tryd.underlying24
 have HB := Aside0.mk (Below.refl w.heap.size w)
 have H : (if a0.toList = ([] : List UInt8) then (some (0, 0, ([] : List Int), 0)) else ((strings_CutSuffix.f a0 (⟨#[10]⟩ : ByteArray)).bind fun bt169 => (if bt169.2 = true then ((strings_Split.f bt169.1 (⟨#[10]⟩ : ByteArray)).bind fun t171 => (bitmap_Parse.l0 k t171 ([] : List Int) t171 (t171.length : Int) 0)) else (some (0, 0, ([] : List Int), 3))))) = some (r1, r2, r3, r4) := h
 clear h
 by_cases c2 : a0.toList = ([] : List UInt8)
 ·rw [if_pos c2] at H
  have c2b0 := beq_iff_eq.mpr c2
  have c2b1 := bne_eq_false_iff_eq.mpr c2
  clear c2
  simp only [Option.some.injEq, Prod.mk.injEq] at H
  obtain ⟨rfl, rfl, rfl, rfl⟩ := H
  go_enter Tryd.func9, Tryd.ntmps9
  go_wp2_with (first | ((with_reducible refine gd 2 rfl ?_); refine bx 2 #[.int .i64 0, .int .i64 0, .slice none 0 0] 24 rfl rfl ?_; intro gb168 hg w3 hbox hb; have n_ := aC (bs hb) (aC hbox (aC (gz hg) (aE (gz hg)))); clear HB; obtain ⟨HB, BK168, GW168, GE168⟩ := n_; clear hb hbox hg; obtain ⟨hcz4_0, hcz4_1, hcz4_2, hfz4_0, hfz4_1, hfz4_2⟩ := cz3f BK168.out))
  refine bodyPost_ret (results_ct rfl _ _ gb168 24 #[.int .i64 0, .int .i64 0, .slice none 0 0] (0, 0) _ rfl (by (with_reducible repeat (first | refine blk_drewN ?_ _ | refine blk_drew ?_ | refine blk_alloc ?_ _)); refine blk_put (cs := #[.int .i64 0, .int .i64 0, .slice none 0 0]) ?_ 2 _ rfl; (with_reducible repeat (first | refine blk_drewN ?_ _ | refine blk_drew ?_ | refine blk_alloc ?_ _)); refine blk_put (cs := #[.int .i64 0, .int .i64 0, .slice none 0 0]) ?_ 1 _ rfl; (with_reducible repeat (first | refine blk_drewN ?_ _ | refine blk_drew ?_ | refine blk_alloc ?_ _)); refine blk_put (cs := #[.int .i64 0, .int .i64 0, .slice none 0 0]) ?_ 0 _ rfl; (with_reducible repeat (first | refine blk_drewN ?_ _ | refine blk_drew ?_ | refine blk_alloc ?_ _)); exact BK168.out) Tryd.underlying24 rfl (by kernel_rfl)) rfl ?_
  exact ⟨_, re, by first | exact Kd.R_nil _ _ _ _ _ | exact Kd.N_nil _ _ _ _ _ | exact Kd.V_nil _ _ _ _ _ | exact Kd.Q_nil _ _ _ _ _ | exact Kd.S_nil _ _ _ _ _, bl⟩
 ·rw [if_neg c2] at H
  have c2b0 := beq_eq_false_iff_ne.mpr c2
  have c2b1 := bne_iff_ne.mpr c2
  replace H := Option.bind_eq_some_iff.mp H
  obtain ⟨⟨t169, t170⟩, A50, H⟩ := H
  replace H : (if t170 = true then ((strings_Split.f t169 (⟨#[10]⟩ : ByteArray)).bind fun t171 => (bitmap_Parse.l0 k t171 ([] : List Int) t171 (t171.length : Int) 0)) else (some (0, 0, ([] : List Int), 3))) = some (r1, r2, r3, r4) := H
  have A5 := Aside0.mk A50
  clear A50
  by_cases c6 : t170 = true
  ·subst c6
   have H1 : ((strings_Split.f t169 (⟨#[10]⟩ : ByteArray)).bind fun t171 => (bitmap_Parse.l0 k t171 ([] : List Int) t171 (t171.length : Int) 0)) = some (r1, r2, r3, r4) := by rw [if_pos rfl] at H; exact H
   clear H
   have H := H1
   clear H1
   replace H := Option.bind_eq_some_iff.mp H
   obtain ⟨t171, A70, H⟩ := H
   replace H : (bitmap_Parse.l0 k t171 ([] : List Int) t171 (t171.length : Int) 0) = some (r1, r2, r3, r4) := H
   have A7 := Aside0.mk A70
   clear A70
   have H' := Aside0.mk H
   clear H
   go_enter Tryd.func9, Tryd.ntmps9
   go_wp2_with (first | ((with_reducible refine gd 2 rfl ?_); refine bx 2 #[.int .i64 0, .int .i64 0, .slice none 0 0] 24 rfl rfl ?_; intro gb168 hg w8 hbox hb; have n_ := aC (bs hb) (aC hbox (aC (gz hg) (aE (gz hg)))); clear HB; obtain ⟨HB, BK168, GW168, GE168⟩ := n_; clear hb hbox hg) | ((with_reducible refine gf 19 rfl ?_); refine gL (some 17) rfl rfl Tryd.func19 rfl #[.string a0, .string (⟨#[10]⟩ : ByteArray)] rfl ?_; (with_reducible refine (strings_CutSuffix.calls a0 (⟨#[10]⟩ : ByteArray) t169 true _ A5.out).mono ?_); rintro e w' ⟨rfl, ⟨nd, rfl⟩⟩; refine ⟨_, rfl, ?_⟩) | ((with_reducible refine gf 20 rfl ?_); refine gL (some 24) rfl rfl Tryd.func20 rfl #[.string t169, .string (⟨#[10]⟩ : ByteArray)] rfl ?_; (with_reducible refine (strings_Split.calls t169 (⟨#[10]⟩ : ByteArray) t171 _ (TIs.on HTI) A7.out).mono ?_); rintro e w9 ⟨v172, rfl, ho0, hb⟩; refine ⟨_, rfl, ?_⟩; have n_ := aC (Kd.R_lower ho0 bz) (aC (blk_below (bU BK168.out) hb) (aE (bs hb))); clear BK168 HB; obtain ⟨HO173, BK168, HB⟩ := n_; (try clear hb); (try clear ho0); obtain ⟨Ao10, co10, eo10⟩ := Kd.R_slice HO173.out; subst eo10))
   go_loopg [7, 27] k (fun kq v7 v27 w' => ∃ (x7_1 : List Int) (x27_1 : Int) (x169000_1 : Int) (x169001_1 : Int), v27 = .int .i64 x27_1 ∧ Aside0 (bitmap_Parse.l0 kq t171 x7_1 t171 (t171.length : Int) x27_1 = some (r1, r2, r3, r4)) ∧ Aside0 (kq ≤ k) ∧ Aside0 (Kd.R Kd.string 9 w' w.heap.size (fun _ => True) (.slice Ao10 t171.length co10) t171) ∧ Aside0 (Kd.R (Kd.int .u8) 5 w' w.heap.size (fun _ => True) v7 x7_1) ∧ Aside0 (Kd.R Kd.string 9 w' w.heap.size (fun _ => True) (.slice Ao10 t171.length co10) t171) ∧ Aside0 (w'.heap[gb168]? = some (.cells #[.int .i64 x169000_1, .int .i64 x169001_1, (.slice none 0 0)] 24 (0, 0))) ∧ Aside0 (Below w.heap.size w w'))
   case atStart => exact ⟨(([] : List Int)), (0), (0), (0), rq, H', ⟨Nat.le_refl _⟩, ⟨rU HO173.out⟩, ⟨by first | exact Kd.R_nil _ _ _ _ _ | exact Kd.N_nil _ _ _ _ _ | exact Kd.V_nil _ _ _ _ _ | exact Kd.Q_nil _ _ _ _ _ | exact Kd.S_nil _ _ _ _ _⟩, ⟨rU HO173.out⟩, ⟨bU BK168.out⟩, ⟨bl⟩⟩
   case round =>
    clear H'
    obtain ⟨x7_1, x27_1, x169000_1, x169001_1, rfl, HA, HK1, HO_6, HO_7, HO_25, BK168, HB⟩ := hrel
    cases gk with
    | zero => exact absurd HA.out (by simp [bitmap_Parse.l0])
    | succ k1 =>
     have H := HA.out
     clear HA
     simp only [bitmap_Parse.l0] at H
     by_cases c11 : x27_1 < (t171.length : Int)
     ·rw [if_pos c11] at H
      have c11b0 := decide_eq_true c11
      clear c11
      by_cases c12 : 0 ≤ x27_1
      ·rw [if_pos c12] at H
       have c12b0 := decide_eq_true c12
       clear c12
       by_cases c13 : x27_1 < (t171.length : Int)
       ·rw [if_pos c13] at H
        have c13b0 := decide_eq_true c13
        clear c13
        have HC14 := Aside0.mk H
        clear H
        have p177 : 0 ≤ (x27_1 : Int) := dt
        have q177 : x27_1 < (t171.length : Int) := dt
        obtain ⟨ad177, e177, hx177_0⟩ := Kd.at_string (Kd.R_reads' HO_25.out).2.2 x27_1 p177 q177
        cases e177
        replace p177 := eq_true p177
        replace q177 := eq_true q177
        go_upto_region 11 with (fail)
        go_cut [42] (fun v42 wc => ∃ (kq : Nat) (x42_13 : Bool), v42 = .bool x42_13 ∧ Aside0 (bitmap_Parse.j1 kq t171 x7_1 (rdOf ByteArray.empty t171 x27_1) t171 (t171.length : Int) x27_1 x42_13 = some (r1, r2, r3, r4)) ∧ Aside0 (kq ≤ k1) ∧ Aside0 (Kd.R Kd.string 9 wc w.heap.size (fun _ => True) (.slice (some ad177) t171.length co10) t171) ∧ Aside0 (Kd.R (Kd.int .u8) 5 wc w.heap.size (fun _ => True) u7 x7_1) ∧ Aside0 (Kd.R Kd.string 9 wc w.heap.size (fun _ => True) (.slice (some ad177) t171.length co10) t171) ∧ Aside0 (wc.heap[gb168]? = some (.cells #[.int .i64 x169000_1, .int .i64 x169001_1, (.slice none 0 0)] 24 (0, 0))) ∧ Aside0 (Below w.heap.size w wc))
        case first =>
         have H := HC14.out
         clear HC14
         by_cases c15 : 0 < (t171.length : Int)
         ·rw [if_pos c15] at H
          have c15b0 := decide_eq_true c15
          have c15b1 : decide (0 < t171.length) = true := decide_eq_true (by omega)
          clear c15
          (first | rw [c15b0] | (simp only [i64_w, i32_w]; rw [c15b0]) | skip)
          by_cases c16 : ((rdOf ByteArray.empty t171 x27_1).size : Int) = ((rdOf ByteArray.empty t171 0).size : Int)
          ·rw [if_pos c16] at H
           have c16b0 := beq_iff_eq.mpr c16
           have c16b1 := bne_eq_false_iff_eq.mpr c16
           have c16b2 : ((rdOf ByteArray.empty t171 x27_1).size == (rdOf ByteArray.empty t171 0).size) = true := by first | simpa using c16 | (simp at c16 ⊢; omega)
           clear c16
           replace H := Option.bind_eq_some_iff.mp H
           obtain ⟨t179, A170, H⟩ := H
           replace H : (bitmap_Parse.j1 k1 t171 x7_1 (rdOf ByteArray.empty t171 x27_1) t171 (t171.length : Int) x27_1 (t179.toList != ([] : List UInt8))) = some (r1, r2, r3, r4) := H
           have A17 := Aside0.mk A170
           clear A170
           have H' := Aside0.mk H
           clear H
           have p178 : 0 ≤ (0 : Int) := (by omega)
           have q178 : 0 < (t171.length : Int) := dt
           obtain ⟨ad178, e178, hx178_0⟩ := Kd.at_string (Kd.R_reads' HO_6.out).2.2 0 p178 q178
           obtain rfl : ad177 = ad178 := (by injection e178)
           have qi178 : (0 < t171.length) = True := eq_true (by omega)
           (try rw [show ((0 : Int)).toNat = 0 from rfl] at hx178_0)
           (try rw [Addr.add_zero'] at hx178_0)
           replace p178 := eq_true p178
           replace q178 := eq_true q178
           go_wp2_with (first | (go_at_call 21; (with_reducible refine (strings_Trim.calls (rdOf ByteArray.empty t171 x27_1) (⟨#[46, 35]⟩ : ByteArray) t179 _ A17.out).mono ?_); rintro e w18 ⟨rfl, hb⟩; have n_ := aC (Kd.R_below (rU HO_6.out) hb) (aC (Kd.R_below (rU HO_7.out) hb) (aC (Kd.R_below (rU HO_25.out) hb) (aC (blk_below (bU BK168.out) hb) (aE (bs hb))))); clear HO_6 HO_7 HO_25 BK168 HB; obtain ⟨HO_6, HO_7, HO_25, BK168, HB⟩ := n_; (try clear hb)))
           go_meet
           case rel => exact ⟨_, ((t179.toList != ([] : List UInt8))), rq, H', ⟨by have := HK1.out; first | omega | exact Nat.le_refl _⟩, ⟨rU HO_6.out⟩, ⟨rU HO_7.out⟩, ⟨rU HO_25.out⟩, ⟨bU BK168.out⟩, ⟨bl⟩⟩
          ·rw [if_neg c16] at H
           have c16b0 := beq_eq_false_iff_ne.mpr c16
           have c16b1 := bne_iff_ne.mpr c16
           have c16b2 : ((rdOf ByteArray.empty t171 x27_1).size == (rdOf ByteArray.empty t171 0).size) = false := by first | simpa using c16 | (simp at c16 ⊢; omega)
           have H' := Aside0.mk H
           clear H
           have p178 : 0 ≤ (0 : Int) := (by omega)
           have q178 : 0 < (t171.length : Int) := dt
           obtain ⟨ad178, e178, hx178_0⟩ := Kd.at_string (Kd.R_reads' HO_6.out).2.2 0 p178 q178
           obtain rfl : ad177 = ad178 := (by injection e178)
           have qi178 : (0 < t171.length) = True := eq_true (by omega)
           (try rw [show ((0 : Int)).toNat = 0 from rfl] at hx178_0)
           (try rw [Addr.add_zero'] at hx178_0)
           replace p178 := eq_true p178
           replace q178 := eq_true q178
           go_wp2
           go_meet
           case rel => exact ⟨_, (true), rq, H', ⟨by have := HK1.out; first | omega | exact Nat.le_refl _⟩, ⟨rU HO_6.out⟩, ⟨rU HO_7.out⟩, ⟨rU HO_25.out⟩, ⟨bU BK168.out⟩, ⟨bl⟩⟩
         ·rw [if_neg c15] at H
          exact absurd H (by simp)
        case rest =>
         clear HC14
         obtain ⟨kq, x42_13, rfl, HA, HJ13, HO_6, HO_7, HO_25, BK168, HB⟩ := hcut
         cases kq with
         | zero => exact absurd HA.out (by simp [bitmap_Parse.j1])
         | succ kj13 =>
          have H := HA.out
          clear HA
          simp only [bitmap_Parse.j1] at H
          by_cases c19 : x42_13 = true
          ·subst c19
           have H1 : (some (0, 0, ([] : List Int), 3)) = some (r1, r2, r3, r4) := by rw [if_pos rfl] at H; exact H
           clear H
           have H := H1
           clear H1
           simp only [Option.some.injEq, Prod.mk.injEq] at H
           obtain ⟨rfl, rfl, rfl, rfl⟩ := H
           obtain ⟨hcz20_0, hcz20_1, hcz20_2, hfz20_0, hfz20_1, hfz20_2⟩ := cz3f BK168.out
           go_wp2
           refine bodyPost_ret (results_ct rfl _ _ gb168 24 #[.int .i64 0, .int .i64 0, .slice none 0 0] (0, 0) _ rfl (by (with_reducible repeat (first | refine blk_drewN ?_ _ | refine blk_drew ?_ | refine blk_alloc ?_ _)); refine blk_put (cs := #[.int .i64 0, .int .i64 0, .slice none 0 0]) ?_ 2 _ rfl; (with_reducible repeat (first | refine blk_drewN ?_ _ | refine blk_drew ?_ | refine blk_alloc ?_ _)); refine blk_put (cs := #[.int .i64 0, .int .i64 x169001_1, .slice none 0 0]) ?_ 1 _ rfl; (with_reducible repeat (first | refine blk_drewN ?_ _ | refine blk_drew ?_ | refine blk_alloc ?_ _)); refine blk_put (cs := #[.int .i64 x169000_1, .int .i64 x169001_1, .slice none 0 0]) ?_ 0 _ rfl; (with_reducible repeat (first | refine blk_drewN ?_ _ | refine blk_drew ?_ | refine blk_alloc ?_ _)); exact BK168.out) Tryd.underlying24 rfl (by kernel_rfl)) rfl ?_
           exact ⟨_, re, by first | exact Kd.R_nil _ _ _ _ _ | exact Kd.N_nil _ _ _ _ _ | exact Kd.V_nil _ _ _ _ _ | exact Kd.Q_nil _ _ _ _ _ | exact Kd.S_nil _ _ _ _ _, bl⟩
          ·replace c19 := Bool.eq_false_iff.mpr c19
           subst c19
           have H1 : (bitmap_Parse.l1 kj13 t171 x7_1 (rdOf ByteArray.empty t171 x27_1) t171 (t171.length : Int) x27_1 ((rdOf ByteArray.empty t171 x27_1).size : Int) 0) = some (r1, r2, r3, r4) := by rw [if_neg (show ¬ (false = true) by decide)] at H; exact H
           clear H
           have H := H1
           clear H1
           have H' := Aside0.mk H
           clear H
           go_wp2
           go_loopg [7, 46] kj13 (fun kq v7 v46 w' => ∃ (x7_3 : List Int) (x46_3 : Int), v46 = .int .i64 x46_3 ∧ Aside0 (bitmap_Parse.l1 kq t171 x7_3 (rdOf ByteArray.empty t171 x27_1) t171 (t171.length : Int) x27_1 ((rdOf ByteArray.empty t171 x27_1).size : Int) x46_3 = some (r1, r2, r3, r4)) ∧ Aside0 (kq ≤ kj13) ∧ Aside0 (Kd.R Kd.string 9 w' w.heap.size (fun _ => True) (.slice (some ad177) t171.length co10) t171) ∧ Aside0 (Kd.R (Kd.int .u8) 5 w' w.heap.size (fun _ => True) v7 x7_3) ∧ Aside0 (Kd.R Kd.string 9 w' w.heap.size (fun _ => True) (.slice (some ad177) t171.length co10) t171) ∧ Aside0 (w'.heap[gb168]? = some (.cells #[.int .i64 x169000_1, .int .i64 x169001_1, (.slice none 0 0)] 24 (0, 0))) ∧ Aside0 (Below w.heap.size w w'))
           case atStart => exact ⟨(x7_1), (0), rq, H', ⟨Nat.le_refl _⟩, ⟨rU HO_6.out⟩, ⟨rU HO_7.out⟩, ⟨rU HO_25.out⟩, ⟨bU BK168.out⟩, ⟨bl⟩⟩
           case round =>
            clear H'
            obtain ⟨x7_3, x46_3, rfl, HA, HK3, HO_6, HO_7, HO_25, BK168, HB⟩ := hrel
            cases gk with
            | zero => exact absurd HA.out (by simp [bitmap_Parse.l1])
            | succ k3 =>
             have H := HA.out
             clear HA
             simp only [bitmap_Parse.l1] at H
             by_cases c21 : x46_3 < ((rdOf ByteArray.empty t171 x27_1).size : Int)
             ·rw [if_pos c21] at H
              have c21b0 := decide_eq_true c21
              clear c21
              by_cases c22 : 0 ≤ x46_3
              ·rw [if_pos c22] at H
               have c22b0 := decide_eq_true c22
               clear c22
               by_cases c23 : x46_3 < ((rdOf ByteArray.empty t171 x27_1).size : Int)
               ·rw [if_pos c23] at H
                have c23b0 := decide_eq_true c23
                clear c23
                by_cases c25 : (bt (rdOf ByteArray.empty t171 x27_1) x46_3) = 35
                ·rw [if_pos c25] at H
                 have c25b0 := beq_iff_eq.mpr c25
                 have c25b1 := bne_eq_false_iff_eq.mpr c25
                 clear c25
                 by_cases c26 : x7_3.length < 140737488355328
                 ·rw [if_pos c26] at H
                  have LMc26 := Aside0.mk c26
                  clear c26
                  obtain ⟨y180, hy_⟩ : ∃ y_ : List Int, y_ = (x7_3 ++ [1]) := ⟨_, rfl⟩
                  replace H : (bitmap_Parse.l1 k3 t171 y180 (rdOf ByteArray.empty t171 x27_1) t171 (t171.length : Int) x27_1 ((rdOf ByteArray.empty t171 x27_1).size : Int) (wrap64 (x46_3 + 1))) = some (r1, r2, r3, r4) := rh
                  have Ny180 := aE hy_
                  clear hy_
                  have H' := Aside0.mk H
                  clear H
                  have p24 : 0 ≤ (x46_3 : Int) := dt
                  have q24 : x46_3 < ((rdOf ByteArray.empty t171 x27_1).size : Int) := dt
                  have hx24 := bt_at (rdOf ByteArray.empty t171 x27_1) x46_3
                  replace p24 := eq_true p24
                  replace q24 := eq_true q24
                  go_wp2_with (first | ((with_reducible refine gate_builtin (b := .append) (xs := #[.tmp 53, .tmp 55]) rfl ?_); at_builtin; refine Kd.R_append (Kd.int .u8) (w0 := w) w.heap.size rfl (.tmp 53) (.tmp 55) 22 5 (.int .u8 0) 1 rfl Tryd.underlying22 info5 rfl (by decide) (by omega) u7 x7_3 1 [.int .u8 1] (fun _ => True) (fun _ => False) rfl rfl ?aP (fun _ hk => hk.elim) ?aF ?aO ?aB ?aS ?aL ?_; (case aP => exact rfl); (case aB => exact bl); (case aF => exact (fun _ _ => trivial)); (case aO => exact (rU HO_7.out)); (case aS => exact bz); (case aL => have := LMc26.out; omega); intro v181 w27 ho hb hg hat; rw [← Ny180.out] at ho; have n_ := aC (Kd.R_over' (rU HO_6.out) (Kd.R_typed (rU HO_7.out)) (by decide) hg) (aC (Kd.R_over' (rU HO_25.out) (Kd.R_typed (rU HO_7.out)) (by decide) hg) (aC (blk_grown (bU BK168.out) hg (Kd.R_ne HO_7.out BK168.out (by decide))) (aC hb (aE ho)))); clear HO_6 HO_25 BK168 HB HO_7; obtain ⟨HO_6, HO_25, BK168, HB, HO182⟩ := n_; clear ho hb hg hat))
                  go_roundg k3
                  case measure => have := HK1.out; have := HJ13.out; have := HK3.out; omega
                  case rel => exact ⟨(y180), (wrap64 (x46_3 + 1)), rq, H', ⟨by have := HK1.out; have := HJ13.out; have := HK3.out; omega⟩, ⟨rU HO_6.out⟩, ⟨rU HO182.out⟩, ⟨rU HO_25.out⟩, ⟨bU BK168.out⟩, ⟨bl⟩⟩
                 ·rw [if_neg c26] at H
                  exact absurd H (by simp)
                ·rw [if_neg c25] at H
                 have c25b0 := beq_eq_false_iff_ne.mpr c25
                 have c25b1 := bne_iff_ne.mpr c25
                 by_cases c28 : x7_3.length < 140737488355328
                 ·rw [if_pos c28] at H
                  have LMc28 := Aside0.mk c28
                  clear c28
                  obtain ⟨y183, hy_⟩ : ∃ y_ : List Int, y_ = (x7_3 ++ [0]) := ⟨_, rfl⟩
                  replace H : (bitmap_Parse.l1 k3 t171 y183 (rdOf ByteArray.empty t171 x27_1) t171 (t171.length : Int) x27_1 ((rdOf ByteArray.empty t171 x27_1).size : Int) (wrap64 (x46_3 + 1))) = some (r1, r2, r3, r4) := rh
                  have Ny183 := aE hy_
                  clear hy_
                  have H' := Aside0.mk H
                  clear H
                  have p24 : 0 ≤ (x46_3 : Int) := dt
                  have q24 : x46_3 < ((rdOf ByteArray.empty t171 x27_1).size : Int) := dt
                  have hx24 := bt_at (rdOf ByteArray.empty t171 x27_1) x46_3
                  replace p24 := eq_true p24
                  replace q24 := eq_true q24
                  go_wp2_with (first | ((with_reducible refine gate_builtin (b := .append) (xs := #[.tmp 53, .tmp 55]) rfl ?_); at_builtin; refine Kd.R_append (Kd.int .u8) (w0 := w) w.heap.size rfl (.tmp 53) (.tmp 55) 22 5 (.int .u8 0) 1 rfl Tryd.underlying22 info5 rfl (by decide) (by omega) u7 x7_3 0 [.int .u8 0] (fun _ => True) (fun _ => False) rfl rfl ?aP (fun _ hk => hk.elim) ?aF ?aO ?aB ?aS ?aL ?_; (case aP => exact rfl); (case aB => exact bl); (case aF => exact (fun _ _ => trivial)); (case aO => exact (rU HO_7.out)); (case aS => exact bz); (case aL => have := LMc28.out; omega); intro v184 w29 ho hb hg hat; rw [← Ny183.out] at ho; have n_ := aC (Kd.R_over' (rU HO_6.out) (Kd.R_typed (rU HO_7.out)) (by decide) hg) (aC (Kd.R_over' (rU HO_25.out) (Kd.R_typed (rU HO_7.out)) (by decide) hg) (aC (blk_grown (bU BK168.out) hg (Kd.R_ne HO_7.out BK168.out (by decide))) (aC hb (aE ho)))); clear HO_6 HO_25 BK168 HB HO_7; obtain ⟨HO_6, HO_25, BK168, HB, HO185⟩ := n_; clear ho hb hg hat))
                  go_roundg k3
                  case measure => have := HK1.out; have := HJ13.out; have := HK3.out; omega
                  case rel => exact ⟨(y183), (wrap64 (x46_3 + 1)), rq, H', ⟨by have := HK1.out; have := HJ13.out; have := HK3.out; omega⟩, ⟨rU HO_6.out⟩, ⟨rU HO185.out⟩, ⟨rU HO_25.out⟩, ⟨bU BK168.out⟩, ⟨bl⟩⟩
                 ·rw [if_neg c28] at H
                  exact absurd H (by simp)
               ·rw [if_neg c23] at H
                exact absurd H (by simp)
              ·rw [if_neg c22] at H
               exact absurd H (by simp)
             ·rw [if_neg c21] at H
              have c21b0 := decide_eq_false c21
              clear c21
              have H' := Aside0.mk H
              clear H
              go_wp2
              go_roundg k3
              case measure => have := HK1.out; have := HJ13.out; have := HK3.out; omega
              case rel => exact ⟨(x7_3), (wrap64 (x27_1 + 1)), (x169000_1), (x169001_1), rq, H', ⟨by have := HK1.out; have := HJ13.out; have := HK3.out; omega⟩, ⟨rU HO_6.out⟩, ⟨rU HO_7.out⟩, ⟨rU HO_25.out⟩, ⟨bU BK168.out⟩, ⟨bl⟩⟩
       ·rw [if_neg c13] at H
        exact absurd H (by simp)
      ·rw [if_neg c12] at H
       exact absurd H (by simp)
     ·rw [if_neg c11] at H
      have c11b0 := decide_eq_false c11
      clear c11
      by_cases c30 : 0 < (t171.length : Int)
      ·rw [if_pos c30] at H
       have c30b0 := decide_eq_true c30
       have c30b1 : decide (0 < t171.length) = true := decide_eq_true (by omega)
       clear c30
       replace H := Option.bind_eq_some_iff.mp H
       obtain ⟨t175, A310, H⟩ := H
       replace H : (if t175 = true then (some (((rdOf ByteArray.empty t171 0).size : Int), (t171.length : Int), x7_1, 0)) else (some (0, 0, ([] : List Int), 4))) = some (r1, r2, r3, r4) := H
       have A31 := Aside0.mk A310
       clear A310
       by_cases c32 : t175 = true
       ·subst c32
        have H1 : (some (((rdOf ByteArray.empty t171 0).size : Int), (t171.length : Int), x7_1, 0)) = some (r1, r2, r3, r4) := by rw [if_pos rfl] at H; exact H
        clear H
        have H := H1
        clear H1
        simp only [Option.some.injEq, Prod.mk.injEq] at H
        obtain ⟨rfl, rfl, rfl, rfl⟩ := H
        have p174 : 0 ≤ (0 : Int) := (by omega)
        have q174 : 0 < (t171.length : Int) := dt
        obtain ⟨ad174, e174, hx174_0⟩ := Kd.at_string (Kd.R_reads' HO_6.out).2.2 0 p174 q174
        cases e174
        have qi174 : (0 < t171.length) = True := eq_true (by omega)
        (try rw [show ((0 : Int)).toNat = 0 from rfl] at hx174_0)
        (try rw [Addr.add_zero'] at hx174_0)
        replace p174 := eq_true p174
        replace q174 := eq_true q174
        go_wp2_with (first | ((with_reducible refine gf 22 rfl ?_); refine gL (some 65) rfl rfl Tryd.func22 rfl #[.int .i64 ((rdOf ByteArray.empty t171 0).size : Int), .int .i64 (t171.length : Int)] rfl ?_; (with_reducible refine (bitmap_fits.calls ((rdOf ByteArray.empty t171 0).size : Int) (t171.length : Int) true _ A31.out).mono ?_); rintro e w' ⟨rfl, ⟨nd, rfl⟩⟩; refine ⟨_, rfl, ?_⟩; (try (rw [drewN_self wr]; generalize hq_ : World.drewN wr _ = wr; have n0_ : Aside0 (Kd.R Kd.string 9 wr w.heap.size (fun _ => True) (.slice (some ad174) t171.length co10) t171) := ⟨by rw [← hq_]; exact (rU HO_25.out)⟩; have n1_ : Aside0 (Kd.R Kd.string 9 wr w.heap.size (fun _ => True) (.slice (some ad174) t171.length co10) t171) := ⟨by rw [← hq_]; exact (rU HO_6.out)⟩; have n2_ : Aside0 (Kd.R (Kd.int .u8) 5 wr w.heap.size (fun _ => True) u7 x7_1) := ⟨by rw [← hq_]; exact (rU HO_7.out)⟩; have n3_ : Aside0 (wr.heap[gb168]? = some (.cells #[.int .i64 x169000_1, .int .i64 x169001_1, .slice none 0 0] 24 (0, 0))) := ⟨by rw [← hq_]; exact (bU BK168.out)⟩; have n4_ : Aside0 (Below w.heap.size w wr) := ⟨by rw [← hq_]; exact bl⟩; clear HO_25 HO_6 HO_7 BK168 HB hq_; have HO_25 := n0_; have HO_6 := n1_; have HO_7 := n2_; have BK168 := n3_; have HB := n4_; clear n0_ n1_ n2_ n3_ n4_)); obtain ⟨_, _, _, _, _, _⟩ := cz3f BK168.out; have p176 : 0 ≤ (0 : Int) := (by omega); have q176 : 0 < (t171.length : Int) := dt; obtain ⟨ad176, e176, hx176_0⟩ := Kd.at_string (Kd.R_reads' HO_6.out).2.2 0 p176 q176; obtain rfl : ad174 = ad176 := (by injection e176); have qi176 : (0 < t171.length) = True := eq_true (by omega); (try rw [show ((0 : Int)).toNat = 0 from rfl] at hx176_0); (try rw [Addr.add_zero'] at hx176_0); replace p176 := eq_true p176; replace q176 := eq_true q176; obtain ⟨Ao33, co33, eo33⟩ := Kd.R_slice HO_7.out; subst eo33; obtain ⟨hcz34_0, hcz34_1, hcz34_2, hfz34_0, hfz34_1, hfz34_2⟩ := cz3f BK168.out))
        refine bodyPost_ret (results_ct rfl _ _ gb168 24 #[.int .i64 ((rdOf ByteArray.empty t171 0).size : Int), .int .i64 (t171.length : Int), .slice Ao33 x7_1.length co33] (0, 0) _ rfl (by (with_reducible repeat (first | refine blk_drewN ?_ _ | refine blk_drew ?_ | refine blk_alloc ?_ _)); refine blk_put (cs := #[.int .i64 ((rdOf ByteArray.empty t171 0).size : Int), .int .i64 (t171.length : Int), .slice none 0 0]) ?_ 2 _ rfl; (with_reducible repeat (first | refine blk_drewN ?_ _ | refine blk_drew ?_ | refine blk_alloc ?_ _)); refine blk_put (cs := #[.int .i64 ((rdOf ByteArray.empty t171 0).size : Int), .int .i64 x169001_1, .slice none 0 0]) ?_ 1 _ rfl; (with_reducible repeat (first | refine blk_drewN ?_ _ | refine blk_drew ?_ | refine blk_alloc ?_ _)); refine blk_put (cs := #[.int .i64 x169000_1, .int .i64 x169001_1, .slice none 0 0]) ?_ 0 _ rfl; (with_reducible repeat (first | refine blk_drewN ?_ _ | refine blk_drew ?_ | refine blk_alloc ?_ _)); exact BK168.out) Tryd.underlying24 rfl (by kernel_rfl)) rfl ?_
        exact ⟨_, re, rU (Kd.R_mono (Kd.R_far (p := ⟨gb168, 2, none⟩) (Kd.R_far (p := ⟨gb168, 1, none⟩) (Kd.R_far (p := ⟨gb168, 0, none⟩) (Kd.R_types HO_7.out BK168.out (by decide)) (fun _ hk => hk.2) (.int .i64 ((rdOf ByteArray.empty t171 0).size : Int))) (fun _ hk => hk.2) (.int .i64 (t171.length : Int))) (fun _ hk => hk.2) (.slice Ao33 x7_1.length co33)) (fun _ hk => trivial)), bl⟩
       ·replace c32 := Bool.eq_false_iff.mpr c32
        subst c32
        have H1 : (some (0, 0, ([] : List Int), 4)) = some (r1, r2, r3, r4) := by rw [if_neg (show ¬ (false = true) by decide)] at H; exact H
        clear H
        have H := H1
        clear H1
        simp only [Option.some.injEq, Prod.mk.injEq] at H
        obtain ⟨rfl, rfl, rfl, rfl⟩ := H
        have p174 : 0 ≤ (0 : Int) := (by omega)
        have q174 : 0 < (t171.length : Int) := dt
        obtain ⟨ad174, e174, hx174_0⟩ := Kd.at_string (Kd.R_reads' HO_6.out).2.2 0 p174 q174
        cases e174
        have qi174 : (0 < t171.length) = True := eq_true (by omega)
        (try rw [show ((0 : Int)).toNat = 0 from rfl] at hx174_0)
        (try rw [Addr.add_zero'] at hx174_0)
        replace p174 := eq_true p174
        replace q174 := eq_true q174
        go_wp2_with (first | ((with_reducible refine gf 22 rfl ?_); refine gL (some 65) rfl rfl Tryd.func22 rfl #[.int .i64 ((rdOf ByteArray.empty t171 0).size : Int), .int .i64 (t171.length : Int)] rfl ?_; (with_reducible refine (bitmap_fits.calls ((rdOf ByteArray.empty t171 0).size : Int) (t171.length : Int) false _ A31.out).mono ?_); rintro e w' ⟨rfl, ⟨nd, rfl⟩⟩; refine ⟨_, rfl, ?_⟩; (try (rw [drewN_self wr]; generalize hq_ : World.drewN wr _ = wr; have n0_ : Aside0 (Kd.R Kd.string 9 wr w.heap.size (fun _ => True) (.slice (some ad174) t171.length co10) t171) := ⟨by rw [← hq_]; exact (rU HO_25.out)⟩; have n1_ : Aside0 (Kd.R Kd.string 9 wr w.heap.size (fun _ => True) (.slice (some ad174) t171.length co10) t171) := ⟨by rw [← hq_]; exact (rU HO_6.out)⟩; have n2_ : Aside0 (Kd.R (Kd.int .u8) 5 wr w.heap.size (fun _ => True) u7 x7_1) := ⟨by rw [← hq_]; exact (rU HO_7.out)⟩; have n3_ : Aside0 (wr.heap[gb168]? = some (.cells #[.int .i64 x169000_1, .int .i64 x169001_1, .slice none 0 0] 24 (0, 0))) := ⟨by rw [← hq_]; exact (bU BK168.out)⟩; have n4_ : Aside0 (Below w.heap.size w wr) := ⟨by rw [← hq_]; exact bl⟩; clear HO_25 HO_6 HO_7 BK168 HB hq_; have HO_25 := n0_; have HO_6 := n1_; have HO_7 := n2_; have BK168 := n3_; have HB := n4_; clear n0_ n1_ n2_ n3_ n4_)); obtain ⟨_, _, _, _, _, _⟩ := cz3f BK168.out; obtain ⟨hcz35_0, hcz35_1, hcz35_2, hfz35_0, hfz35_1, hfz35_2⟩ := cz3f BK168.out))
        refine bodyPost_ret (results_ct rfl _ _ gb168 24 #[.int .i64 0, .int .i64 0, .slice none 0 0] (0, 0) _ rfl (by (with_reducible repeat (first | refine blk_drewN ?_ _ | refine blk_drew ?_ | refine blk_alloc ?_ _)); refine blk_put (cs := #[.int .i64 0, .int .i64 0, .slice none 0 0]) ?_ 2 _ rfl; (with_reducible repeat (first | refine blk_drewN ?_ _ | refine blk_drew ?_ | refine blk_alloc ?_ _)); refine blk_put (cs := #[.int .i64 0, .int .i64 x169001_1, .slice none 0 0]) ?_ 1 _ rfl; (with_reducible repeat (first | refine blk_drewN ?_ _ | refine blk_drew ?_ | refine blk_alloc ?_ _)); refine blk_put (cs := #[.int .i64 x169000_1, .int .i64 x169001_1, .slice none 0 0]) ?_ 0 _ rfl; (with_reducible repeat (first | refine blk_drewN ?_ _ | refine blk_drew ?_ | refine blk_alloc ?_ _)); exact BK168.out) Tryd.underlying24 rfl (by kernel_rfl)) rfl ?_
        exact ⟨_, re, by first | exact Kd.R_nil _ _ _ _ _ | exact Kd.N_nil _ _ _ _ _ | exact Kd.V_nil _ _ _ _ _ | exact Kd.Q_nil _ _ _ _ _ | exact Kd.S_nil _ _ _ _ _, bl⟩
      ·rw [if_neg c30] at H
       exact absurd H (by simp)
  ·replace c6 := Bool.eq_false_iff.mpr c6
   subst c6
   have H1 : (some (0, 0, ([] : List Int), 3)) = some (r1, r2, r3, r4) := by rw [if_neg (show ¬ (false = true) by decide)] at H; exact H
   clear H
   have H := H1
   clear H1
   simp only [Option.some.injEq, Prod.mk.injEq] at H
   obtain ⟨rfl, rfl, rfl, rfl⟩ := H
   go_enter Tryd.func9, Tryd.ntmps9
   go_wp2_with (first | ((with_reducible refine gd 2 rfl ?_); refine bx 2 #[.int .i64 0, .int .i64 0, .slice none 0 0] 24 rfl rfl ?_; intro gb168 hg w36 hbox hb; have n_ := aC (bs hb) (aC hbox (aC (gz hg) (aE (gz hg)))); clear HB; obtain ⟨HB, BK168, GW168, GE168⟩ := n_; clear hb hbox hg) | ((with_reducible refine gf 19 rfl ?_); refine gL (some 17) rfl rfl Tryd.func19 rfl #[.string a0, .string (⟨#[10]⟩ : ByteArray)] rfl ?_; (with_reducible refine (strings_CutSuffix.calls a0 (⟨#[10]⟩ : ByteArray) t169 false _ A5.out).mono ?_); rintro e w' ⟨rfl, ⟨nd, rfl⟩⟩; refine ⟨_, rfl, ?_⟩; (try (rw [drewN_self w36]; generalize hq_ : World.drewN w36 _ = w36; have n0_ : Aside0 (w36.heap[gb168]? = some (.cells #[.int .i64 0, .int .i64 0, .slice none 0 0] 24 (0, 0))) := ⟨by rw [← hq_]; exact (bU BK168.out)⟩; have n1_ : Aside0 (Below w.heap.size w w36) := ⟨by rw [← hq_]; exact bl⟩; clear BK168 HB hq_; have BK168 := n0_; have HB := n1_; clear n0_ n1_)); obtain ⟨hcz37_0, hcz37_1, hcz37_2, hfz37_0, hfz37_1, hfz37_2⟩ := cz3f BK168.out))
   refine bodyPost_ret (results_ct rfl _ _ gb168 24 #[.int .i64 0, .int .i64 0, .slice none 0 0] (0, 0) _ rfl (by (with_reducible repeat (first | refine blk_drewN ?_ _ | refine blk_drew ?_ | refine blk_alloc ?_ _)); refine blk_put (cs := #[.int .i64 0, .int .i64 0, .slice none 0 0]) ?_ 2 _ rfl; (with_reducible repeat (first | refine blk_drewN ?_ _ | refine blk_drew ?_ | refine blk_alloc ?_ _)); refine blk_put (cs := #[.int .i64 0, .int .i64 0, .slice none 0 0]) ?_ 1 _ rfl; (with_reducible repeat (first | refine blk_drewN ?_ _ | refine blk_drew ?_ | refine blk_alloc ?_ _)); refine blk_put (cs := #[.int .i64 0, .int .i64 0, .slice none 0 0]) ?_ 0 _ rfl; (with_reducible repeat (first | refine blk_drewN ?_ _ | refine blk_drew ?_ | refine blk_alloc ?_ _)); exact BK168.out) Tryd.underlying24 rfl (by kernel_rfl)) rfl ?_
   exact ⟨_, re, by first | exact Kd.R_nil _ _ _ _ _ | exact Kd.N_nil _ _ _ _ _ | exact Kd.V_nil _ _ _ _ _ | exact Kd.Q_nil _ _ _ _ _ | exact Kd.S_nil _ _ _ _ _, bl⟩

/-! ### incunablelaw05_BitmapFormats: function 3 -/
def incunablelaw05_BitmapFormats.j0 : Nat → ByteArray → Int → Bool → Int → Int → List Int → Option (Bool)
 | 0, _, _, _, _, _, _ => none
 | k + 1, x3, x4, x28, x187000, x187001, x187002 => if x28 = true then (some false) else (if x4 = 0 then ((bitmap_Parse.f k x3).bind fun bt194 => (if x187001 = 0 then (if bt194.2.2.2 = 0 then ((incunableref05_Same.f bt194.1 bt194.2.1 bt194.2.2.1 0 0 ([] : List Int)).bind fun t201 => (if t201 = true then ((incunablelaw05_Sane.f k).bind fun t202 => (some t202)) else (some false))) else (some false)) else (if bt194.2.2.2 = 0 then ((incunableref05_Same.f bt194.1 bt194.2.1 bt194.2.2.1 x187000 x187001 x187002).bind fun t203 => (if t203 = true then ((incunablelaw05_Sane.f k).bind fun t204 => (some t204)) else (some false))) else (some false)))) else ((incunablelaw05_Sane.f k).bind fun t193 => (some t193)))
def incunablelaw05_BitmapFormats.f (k : Nat) (a0_0 : Int) (a0_1 : Int) (l0_2 : List Int) : Option (Bool) := (incunablelaw05_Huge.f a0_0 a0_1 l0_2).bind fun t187 => (if t187 = true then ((incunablelaw05_Sane.f k).bind fun t188 => (some t188)) else ((bitmap_Format.f k a0_0 a0_1 l0_2).bind fun bt189 => ((incunableref05_Format.f k a0_0 a0_1 l0_2).bind fun bt191 => (if bt189.2 = bt191.2 then (incunablelaw05_BitmapFormats.j0 k bt189.1 bt189.2 (bt189.1.toList != bt191.1.toList) a0_0 a0_1 l0_2) else (incunablelaw05_BitmapFormats.j0 k bt189.1 bt189.2 true a0_0 a0_1 l0_2)))))
theorem incunablelaw05_BitmapFormats.mono_l : ∀ k, (∀ y0 y1 y2 y3 y4 y5, LeO (incunablelaw05_BitmapFormats.j0 k y0 y1 y2 y3 y4 y5) (incunablelaw05_BitmapFormats.j0 (k + 1) y0 y1 y2 y3 y4 y5))
 | 0 => fun _ _ _ _ _ _ r h => by simp [incunablelaw05_BitmapFormats.j0] at h
 | k + 1 => by
  have ih0 := incunablelaw05_BitmapFormats.mono_l k
  ·intro y0 y1 y2 y3 y4 y5
   unfold incunablelaw05_BitmapFormats.j0
   repeat' first
   | (with_reducible exact ih0 _ _ _ _ _ _)
   | (with_reducible exact bitmap_Format.mono _ _ _ _)
   | (with_reducible exact bitmap_Parse.mono _ _)
   | (with_reducible exact incunablelaw05_Sane.mono _)
   | (with_reducible exact incunableref05_Format.mono _ _ _ _)
   | (with_reducible first | exact LeO.refl _ | exact LeO.none _ | refine LeO.ite ?_ ?_ | refine LeO.bind ?_ (fun _ => ?_))
   | exact ih0 _ _ _ _ _ _
   | exact bitmap_Format.mono _ _ _ _
   | exact bitmap_Parse.mono _ _
   | exact incunablelaw05_Sane.mono _
   | exact incunableref05_Format.mono _ _ _ _
   | exact LeO.none _ | refine LeO.ite ?_ ?_ | refine LeO.bind ?_ (fun _ => ?_)
theorem incunablelaw05_BitmapFormats.mono : ∀ a0 a1 a2 k, LeO (incunablelaw05_BitmapFormats.f k a0 a1 a2) (incunablelaw05_BitmapFormats.f (k + 1) a0 a1 a2) := by
 intro a0 a1 a2 k
 have ih0 := incunablelaw05_BitmapFormats.mono_l k
 unfold incunablelaw05_BitmapFormats.f
 repeat' first
   | (with_reducible exact ih0 _ _ _ _ _ _)
   | (with_reducible exact bitmap_Format.mono _ _ _ _)
   | (with_reducible exact bitmap_Parse.mono _ _)
   | (with_reducible exact incunablelaw05_Sane.mono _)
   | (with_reducible exact incunableref05_Format.mono _ _ _ _)
   | (with_reducible first | exact LeO.refl _ | exact LeO.none _ | refine LeO.ite ?_ ?_ | refine LeO.bind ?_ (fun _ => ?_))
   | exact ih0 _ _ _ _ _ _
   | exact bitmap_Format.mono _ _ _ _
   | exact bitmap_Parse.mono _ _
   | exact incunablelaw05_Sane.mono _
   | exact incunableref05_Format.mono _ _ _ _
   | exact LeO.none _ | refine LeO.ite ?_ ?_ | refine LeO.bind ?_ (fun _ => ?_)
set_option maxHeartbeats 8000000 in
set_option maxRecDepth 100000 in
theorem incunablelaw05_BitmapFormats.calls (k : Nat) (a0_0 : Int) (a0_1 : Int) (A0_2 : Option Addr) (c0_2 : Nat) (l0_2 : List Int) (r : Bool) (w : World) (hT0 : TIs w) (hr0_2 : Kd.C (Kd.int .u8) w A0_2 l0_2.length l0_2) (hc0_2 : l0_2.length ≤ c0_2) (h : incunablelaw05_BitmapFormats.f k a0_0 a0_1 l0_2 = some r) (hr_ : r = true) :
  Calls Tryd.prog 3 #[.agg #[.int .i64 a0_0, .int .i64 a0_1, .slice A0_2 l0_2.length c0_2]] w fun e w' => e = .returned (.bool r) ∧ Below w.heap.size w w' := by
 have HTI := Aside0.mk hT0
 clear hT0
 have HR_ := Aside0.mk hr_
 clear hr_
 have hu24 := Tryd.underlying24
 have HR0_2 := Aside0.mk hr0_2
 have HC0_2 := Aside0.mk hc0_2
 clear hr0_2 hc0_2
 have HB := Aside0.mk (Below.refl w.heap.size w)
 have H : ((incunablelaw05_Huge.f a0_0 a0_1 l0_2).bind fun t187 => (if t187 = true then ((incunablelaw05_Sane.f k).bind fun t188 => (some t188)) else ((bitmap_Format.f k a0_0 a0_1 l0_2).bind fun bt189 => ((incunableref05_Format.f k a0_0 a0_1 l0_2).bind fun bt191 => (if bt189.2 = bt191.2 then (incunablelaw05_BitmapFormats.j0 k bt189.1 bt189.2 (bt189.1.toList != bt191.1.toList) a0_0 a0_1 l0_2) else (incunablelaw05_BitmapFormats.j0 k bt189.1 bt189.2 true a0_0 a0_1 l0_2)))))) = some r := h
 clear h
 replace H := Option.bind_eq_some_iff.mp H
 obtain ⟨t187, A20, H⟩ := H
 replace H : (if t187 = true then ((incunablelaw05_Sane.f k).bind fun t188 => (some t188)) else ((bitmap_Format.f k a0_0 a0_1 l0_2).bind fun bt189 => ((incunableref05_Format.f k a0_0 a0_1 l0_2).bind fun bt191 => (if bt189.2 = bt191.2 then (incunablelaw05_BitmapFormats.j0 k bt189.1 bt189.2 (bt189.1.toList != bt191.1.toList) a0_0 a0_1 l0_2) else (incunablelaw05_BitmapFormats.j0 k bt189.1 bt189.2 true a0_0 a0_1 l0_2))))) = some r := H
 have A2 := Aside0.mk A20
 clear A20
 by_cases c3 : t187 = true
 ·subst c3
  have H1 : ((incunablelaw05_Sane.f k).bind fun t188 => (some t188)) = some r := by rw [if_pos rfl] at H; exact H
  clear H
  have H := H1
  clear H1
  replace H := Option.bind_eq_some_iff.mp H
  obtain ⟨t188, A40, H⟩ := H
  replace H : (some t188) = some r := H
  have A4 := Aside0.mk A40
  clear A40
  obtain rfl := Option.some.inj H
  go_enter Tryd.func3, Tryd.ntmps3
  go_wp2_with (first | ((with_reducible refine gd 1 rfl ?_); refine bx 1 #[.int .i64 a0_0, .int .i64 a0_1, .slice A0_2 l0_2.length c0_2] 24 rfl rfl ?_; intro gb186 hg w5 hbox hb; have n_ := aC (bs hb) (aC hbox (aC (gz hg) (aE (gz hg)))); clear HB; obtain ⟨HB, BK186, GW186, GE186⟩ := n_; clear hb hbox hg; obtain ⟨hcz6_0, hcz6_1, hcz6_2, hfz6_0, hfz6_1, hfz6_2⟩ := cz3f BK186.out) | ((with_reducible refine gf 5 rfl ?_); refine gL (some 9) rfl rfl Tryd.func5 rfl #[.agg #[.int .i64 a0_0, .int .i64 a0_1, .slice A0_2 l0_2.length c0_2]] rfl ?_; (with_reducible refine (incunablelaw05_Huge.calls a0_0 a0_1 _ _ l0_2 true _ ?side1 ?side2 A2.out).mono ?_); (case side1 => exact cU (Kd.C_below HR0_2.out HB.out)); (case side2 => exact HC0_2.out); rintro e w7 ⟨rfl, hb⟩; refine ⟨_, rfl, ?_⟩; have n_ := aC (blk_below (bU BK186.out) hb) (aE (bs hb)); clear BK186 HB; obtain ⟨BK186, HB⟩ := n_; (try clear hb)) | ((with_reducible refine gf 6 rfl ?_); refine gL (some 10) rfl rfl Tryd.func6 rfl #[] rfl ?_; (with_reducible refine (incunablelaw05_Sane.calls k  t188 _ A4.out).mono ?_); rintro e w8 ⟨rfl, hb⟩; refine ⟨_, rfl, ?_⟩; have n_ := aC (blk_below (bU BK186.out) hb) (aE (bs hb)); clear BK186 HB; obtain ⟨BK186, HB⟩ := n_; (try clear hb)))
  go_ret
  exact ⟨re, bl⟩
 ·replace c3 := Bool.eq_false_iff.mpr c3
  subst c3
  have H1 : ((bitmap_Format.f k a0_0 a0_1 l0_2).bind fun bt189 => ((incunableref05_Format.f k a0_0 a0_1 l0_2).bind fun bt191 => (if bt189.2 = bt191.2 then (incunablelaw05_BitmapFormats.j0 k bt189.1 bt189.2 (bt189.1.toList != bt191.1.toList) a0_0 a0_1 l0_2) else (incunablelaw05_BitmapFormats.j0 k bt189.1 bt189.2 true a0_0 a0_1 l0_2)))) = some r := by rw [if_neg (show ¬ (false = true) by decide)] at H; exact H
  clear H
  have H := H1
  clear H1
  replace H := Option.bind_eq_some_iff.mp H
  obtain ⟨⟨t189, t190⟩, A90, H⟩ := H
  replace H : ((incunableref05_Format.f k a0_0 a0_1 l0_2).bind fun bt191 => (if t190 = bt191.2 then (incunablelaw05_BitmapFormats.j0 k t189 t190 (t189.toList != bt191.1.toList) a0_0 a0_1 l0_2) else (incunablelaw05_BitmapFormats.j0 k t189 t190 true a0_0 a0_1 l0_2))) = some r := H
  have A9 := Aside0.mk A90
  clear A90
  replace H := Option.bind_eq_some_iff.mp H
  obtain ⟨⟨t191, t192⟩, A100, H⟩ := H
  replace H : (if t190 = t192 then (incunablelaw05_BitmapFormats.j0 k t189 t190 (t189.toList != t191.toList) a0_0 a0_1 l0_2) else (incunablelaw05_BitmapFormats.j0 k t189 t190 true a0_0 a0_1 l0_2)) = some r := H
  have A10 := Aside0.mk A100
  clear A100
  have HC11 := Aside0.mk H
  clear H
  go_enter Tryd.func3, Tryd.ntmps3
  go_upto_region 5 with (first | ((with_reducible refine gd 1 rfl ?_); refine bx 1 #[.int .i64 a0_0, .int .i64 a0_1, .slice A0_2 l0_2.length c0_2] 24 rfl rfl ?_; intro gb186 hg w12 hbox hb; have n_ := aC (bs hb) (aC hbox (aC (gz hg) (aE (gz hg)))); clear HB; obtain ⟨HB, BK186, GW186, GE186⟩ := n_; clear hb hbox hg; obtain ⟨hcz13_0, hcz13_1, hcz13_2, hfz13_0, hfz13_1, hfz13_2⟩ := cz3f BK186.out) | ((with_reducible refine gf 5 rfl ?_); refine gL (some 9) rfl rfl Tryd.func5 rfl #[.agg #[.int .i64 a0_0, .int .i64 a0_1, .slice A0_2 l0_2.length c0_2]] rfl ?_; (with_reducible refine (incunablelaw05_Huge.calls a0_0 a0_1 _ _ l0_2 false _ ?side1 ?side2 A2.out).mono ?_); (case side1 => exact cU (Kd.C_below HR0_2.out HB.out)); (case side2 => exact HC0_2.out); rintro e w14 ⟨rfl, hb⟩; refine ⟨_, rfl, ?_⟩; have n_ := aC (blk_below (bU BK186.out) hb) (aE (bs hb)); clear BK186 HB; obtain ⟨BK186, HB⟩ := n_; (try clear hb); obtain ⟨hcz15_0, hcz15_1, hcz15_2, hfz15_0, hfz15_1, hfz15_2⟩ := cz3f BK186.out) | ((with_reducible refine gf 7 rfl ?_); refine gL (some 13) rfl rfl Tryd.func7 rfl #[.agg #[.int .i64 a0_0, .int .i64 a0_1, .slice A0_2 l0_2.length c0_2]] rfl ?_; (with_reducible refine (bitmap_Format.calls k a0_0 a0_1 _ _ l0_2 t189 t190 _ ?side1 ?side2 A9.out).mono ?_); (case side1 => exact cU (Kd.C_below HR0_2.out HB.out)); (case side2 => exact HC0_2.out); rintro e w16 ⟨rfl, hb⟩; refine ⟨_, rfl, ?_⟩; have n_ := aC (blk_below (bU BK186.out) hb) (aE (bs hb)); clear BK186 HB; obtain ⟨BK186, HB⟩ := n_; (try clear hb); obtain ⟨hcz17_0, hcz17_1, hcz17_2, hfz17_0, hfz17_1, hfz17_2⟩ := cz3f BK186.out) | ((with_reducible refine gf 8 rfl ?_); refine gL (some 18) rfl rfl Tryd.func8 rfl #[.agg #[.int .i64 a0_0, .int .i64 a0_1, .slice A0_2 l0_2.length c0_2]] rfl ?_; (with_reducible refine (incunableref05_Format.calls k a0_0 a0_1 _ _ l0_2 t191 t192 _ ?side1 ?side2 A10.out).mono ?_); (case side1 => exact cU (Kd.C_below HR0_2.out HB.out)); (case side2 => exact HC0_2.out); rintro e w18 ⟨rfl, hb⟩; refine ⟨_, rfl, ?_⟩; have n_ := aC (blk_below (bU BK186.out) hb) (aE (bs hb)); clear BK186 HB; obtain ⟨BK186, HB⟩ := n_; (try clear hb)))
  (try simp only [Act.put, List.setIfInBounds_toArray, List.set_cons_zero, List.set_cons_succ])
  go_cut [28] (fun v28 wc => ∃ (kq : Nat) (x28_10 : Bool), v28 = .bool x28_10 ∧ Aside0 (incunablelaw05_BitmapFormats.j0 kq t189 t190 x28_10 a0_0 a0_1 l0_2 = some r) ∧ Aside0 (kq ≤ k) ∧ Aside0 (wc.heap[gb186]? = some (.cells #[.int .i64 a0_0, .int .i64 a0_1, (.slice A0_2 l0_2.length c0_2)] 24 (0, 0))) ∧ Aside0 (Below w.heap.size w wc))
  case first =>
   have H := HC11.out
   clear HC11
   by_cases c19 : t190 = t192
   ·rw [if_pos c19] at H
    have c19b0 := beq_iff_eq.mpr c19
    have c19b1 := bne_eq_false_iff_eq.mpr c19
    clear c19
    (first | rw [c19b0] | (simp only [i64_w, i32_w]; rw [c19b0]) | skip)
    have H' := Aside0.mk H
    clear H
    go_wp2
    go_meet
    case rel => exact ⟨_, ((t189.toList != t191.toList)), rq, H', ⟨by first | omega | exact Nat.le_refl _⟩, ⟨bU BK186.out⟩, ⟨bl⟩⟩
   ·rw [if_neg c19] at H
    have c19b0 := beq_eq_false_iff_ne.mpr c19
    have c19b1 := bne_iff_ne.mpr c19
    (first | rw [c19b0] | (simp only [i64_w, i32_w]; rw [c19b0]) | skip)
    have H' := Aside0.mk H
    clear H
    go_wp2
    go_meet
    case rel => exact ⟨_, (true), rq, H', ⟨by first | omega | exact Nat.le_refl _⟩, ⟨bU BK186.out⟩, ⟨bl⟩⟩
  case rest =>
   clear HC11
   obtain ⟨kq, x28_10, rfl, HA, HJ10, BK186, HB⟩ := hcut
   cases kq with
   | zero => exact absurd HA.out (by simp [incunablelaw05_BitmapFormats.j0])
   | succ kj10 =>
    have H := HA.out
    clear HA
    simp only [incunablelaw05_BitmapFormats.j0] at H
    by_cases c20 : x28_10 = true
    ·subst c20
     have H1 : (some false) = some r := by rw [if_pos rfl] at H; exact H
     clear H
     have H := H1
     clear H1
     exact absurd ((Option.some.inj H).trans HR_.out) (by decide)
    ·replace c20 := Bool.eq_false_iff.mpr c20
     subst c20
     have H1 : (if t190 = 0 then ((bitmap_Parse.f kj10 t189).bind fun bt194 => (if a0_1 = 0 then (if bt194.2.2.2 = 0 then ((incunableref05_Same.f bt194.1 bt194.2.1 bt194.2.2.1 0 0 ([] : List Int)).bind fun t201 => (if t201 = true then ((incunablelaw05_Sane.f kj10).bind fun t202 => (some t202)) else (some false))) else (some false)) else (if bt194.2.2.2 = 0 then ((incunableref05_Same.f bt194.1 bt194.2.1 bt194.2.2.1 a0_0 a0_1 l0_2).bind fun t203 => (if t203 = true then ((incunablelaw05_Sane.f kj10).bind fun t204 => (some t204)) else (some false))) else (some false)))) else ((incunablelaw05_Sane.f kj10).bind fun t193 => (some t193))) = some r := by rw [if_neg (show ¬ (false = true) by decide)] at H; exact H
     clear H
     have H := H1
     clear H1
     by_cases c21 : t190 = 0
     ·rw [if_pos c21] at H
      have c21b0 := beq_iff_eq.mpr c21
      have c21b1 := bne_eq_false_iff_eq.mpr c21
      clear c21
      replace H := Option.bind_eq_some_iff.mp H
      obtain ⟨⟨t194, t195, t196, t199⟩, A220, H⟩ := H
      replace H : (if a0_1 = 0 then (if t199 = 0 then ((incunableref05_Same.f t194 t195 t196 0 0 ([] : List Int)).bind fun t201 => (if t201 = true then ((incunablelaw05_Sane.f kj10).bind fun t202 => (some t202)) else (some false))) else (some false)) else (if t199 = 0 then ((incunableref05_Same.f t194 t195 t196 a0_0 a0_1 l0_2).bind fun t203 => (if t203 = true then ((incunablelaw05_Sane.f kj10).bind fun t204 => (some t204)) else (some false))) else (some false))) = some r := H
      have A22 := Aside0.mk A220
      clear A220
      by_cases c23 : a0_1 = 0
      ·rw [if_pos c23] at H
       have c23b0 := beq_iff_eq.mpr c23
       have c23b1 := bne_eq_false_iff_eq.mpr c23
       clear c23
       by_cases c24 : t199 = 0
       ·rw [if_pos c24] at H
        have c24b0 := beq_iff_eq.mpr c24
        have c24b1 := bne_eq_false_iff_eq.mpr c24
        clear c24
        replace H := Option.bind_eq_some_iff.mp H
        obtain ⟨t201, A250, H⟩ := H
        replace H : (if t201 = true then ((incunablelaw05_Sane.f kj10).bind fun t202 => (some t202)) else (some false)) = some r := H
        have A25 := Aside0.mk A250
        clear A250
        by_cases c26 : t201 = true
        ·subst c26
         have H1 : ((incunablelaw05_Sane.f kj10).bind fun t202 => (some t202)) = some r := by rw [if_pos rfl] at H; exact H
         clear H
         have H := H1
         clear H1
         replace H := Option.bind_eq_some_iff.mp H
         obtain ⟨t202, A270, H⟩ := H
         replace H : (some t202) = some r := H
         have A27 := Aside0.mk A270
         clear A270
         obtain rfl := Option.some.inj H
         go_wp2_with (first | ((with_reducible refine gf 9 rfl ?_); refine gL (some 34) rfl rfl Tryd.func9 rfl #[.string t189] rfl ?_; (with_reducible refine (bitmap_Parse.calls kj10 t189 t194 t195 t196 t199 _ (TIs.on HTI) A22.out).mono ?_); rintro e w28 ⟨v197, rfl, ho0, hb⟩; refine ⟨_, rfl, ?_⟩; have n_ := aC (Kd.R_lower ho0 bz) (aC (blk_below (bU BK186.out) hb) (aE (bs hb))); clear BK186 HB; obtain ⟨HO198, BK186, HB⟩ := n_; (try clear hb); (try clear ho0)) | ((with_reducible refine gd 7 rfl ?_); refine bx 7 #[.int .i64 0, .int .i64 0, .slice none 0 0] 24 rfl rfl ?_; intro gb200 hg w29 hbox hb; have n_ := aC (Kd.R_below (rU HO198.out) hb) (aC (blk_below (bU BK186.out) hb) (aC (bs hb) (aC hbox (aC (gz hg) (aC (gz hg) (aC (gn hg (bU BK186.out)) (aE (gm hg (bU BK186.out))))))))); clear HO198 BK186 HB; obtain ⟨HO198, BK186, HB, BK200, GW200, GE200, NB186_200, NB200_186⟩ := n_; clear hb hbox hg; have hnb30 := NB200_186.out; have hnc30 := NB186_200.out; obtain ⟨hcz31_0, hcz31_1, hcz31_2, hfz31_0, hfz31_1, hfz31_2⟩ := cz3f BK200.out; obtain ⟨Ao32, co32, eo32⟩ := Kd.R_slice HO198.out; subst eo32; obtain ⟨hcz33_0, hcz33_1, hcz33_2, hfz33_0, hfz33_1, hfz33_2⟩ := cz3f BK186.out) | (go_at_call 10; (refine (incunableref05_Same.calls t194 t195 _ _ t196 0 0 _ _ ([] : List Int) true _ ?side1 ?side2 ?side3 ?side4 A25.out).mono ?_); (case side1 => refine (Kd.R_reads' (e := 5) (base := w.heap.size) (ok := fun k_ => True) (n := t196.length) (c := co32) ?_).2.2; exact (rU (Kd.R_mono (Kd.R_mono (Kd.R_far (p := ⟨gb186, 2, none⟩) (Kd.R_far (p := ⟨gb186, 1, none⟩) (Kd.R_far (p := ⟨gb186, 0, none⟩) (Kd.R_far (p := ⟨gb200, 2, none⟩) (Kd.R_far (p := ⟨gb200, 1, none⟩) (Kd.R_far (p := ⟨gb200, 0, none⟩) (Kd.R_types (Kd.R_types HO198.out BK200.out (by decide)) BK186.out (by decide)) (fun _ hk => hk.1.2) (.int .i64 t194)) (fun _ hk => hk.1.2) (.int .i64 t195)) (fun _ hk => hk.1.2) (.slice Ao32 t196.length co32)) (fun _ hk => hk.2) (.int .i64 0)) (fun _ hk => hk.2) (.int .i64 0)) (fun _ hk => hk.2) (.slice none 0 0)) (fun _ h_ => h_.1)) (fun _ h_ => h_.1)))); (case side2 => exact (Kd.R_reads' HO198.out).2.1); (case side3 => exact Kd.C_nil _ _); (case side4 => exact Nat.le_refl _); rintro e w34 ⟨rfl, hb⟩; have n_ := aC (Kd.R_below (rU (Kd.R_mono (Kd.R_mono (Kd.R_far (p := ⟨gb186, 2, none⟩) (Kd.R_far (p := ⟨gb186, 1, none⟩) (Kd.R_far (p := ⟨gb186, 0, none⟩) (Kd.R_far (p := ⟨gb200, 2, none⟩) (Kd.R_far (p := ⟨gb200, 1, none⟩) (Kd.R_far (p := ⟨gb200, 0, none⟩) (Kd.R_types (Kd.R_types HO198.out BK200.out (by decide)) BK186.out (by decide)) (fun _ hk => hk.1.2) (.int .i64 t194)) (fun _ hk => hk.1.2) (.int .i64 t195)) (fun _ hk => hk.1.2) (.slice Ao32 t196.length co32)) (fun _ hk => hk.2) (.int .i64 0)) (fun _ hk => hk.2) (.int .i64 0)) (fun _ hk => hk.2) (.slice none 0 0)) (fun _ h_ => h_.1)) (fun _ h_ => h_.1))) hb) (aC (blk_below (g := gb186) (o := .cells #[.int .i64 0, .int .i64 0, .slice none 0 0] 24 (0, 0)) (by (with_reducible repeat (first | refine blk_drewN ?_ _ | refine blk_drew ?_ | refine blk_alloc ?_ _)); refine blk_put (cs := #[.int .i64 0, .int .i64 0, .slice A0_2 l0_2.length c0_2]) ?_ 2 _ rfl; (with_reducible repeat (first | refine blk_drewN ?_ _ | refine blk_drew ?_ | refine blk_alloc ?_ _)); refine blk_put (cs := #[.int .i64 0, .int .i64 a0_1, .slice A0_2 l0_2.length c0_2]) ?_ 1 _ rfl; (with_reducible repeat (first | refine blk_drewN ?_ _ | refine blk_drew ?_ | refine blk_alloc ?_ _)); refine blk_put (cs := #[.int .i64 a0_0, .int .i64 a0_1, .slice A0_2 l0_2.length c0_2]) ?_ 0 _ rfl; (with_reducible repeat (first | refine blk_drewN ?_ _ | refine blk_drew ?_ | refine blk_alloc ?_ _)); refine blk_far ?_ NB186_200.out _; (with_reducible repeat (first | refine blk_drewN ?_ _ | refine blk_drew ?_ | refine blk_alloc ?_ _)); refine blk_far ?_ NB186_200.out _; (with_reducible repeat (first | refine blk_drewN ?_ _ | refine blk_drew ?_ | refine blk_alloc ?_ _)); refine blk_far ?_ NB186_200.out _; (with_reducible repeat (first | refine blk_drewN ?_ _ | refine blk_drew ?_ | refine blk_alloc ?_ _)); exact BK186.out) hb) (aC (blk_below (g := gb200) (o := .cells #[.int .i64 t194, .int .i64 t195, .slice Ao32 t196.length co32] 24 (0, 0)) (by (with_reducible repeat (first | refine blk_drewN ?_ _ | refine blk_drew ?_ | refine blk_alloc ?_ _)); refine blk_far ?_ NB200_186.out _; (with_reducible repeat (first | refine blk_drewN ?_ _ | refine blk_drew ?_ | refine blk_alloc ?_ _)); refine blk_far ?_ NB200_186.out _; (with_reducible repeat (first | refine blk_drewN ?_ _ | refine blk_drew ?_ | refine blk_alloc ?_ _)); refine blk_far ?_ NB200_186.out _; (with_reducible repeat (first | refine blk_drewN ?_ _ | refine blk_drew ?_ | refine blk_alloc ?_ _)); refine blk_put (cs := #[.int .i64 t194, .int .i64 t195, .slice none 0 0]) ?_ 2 _ rfl; (with_reducible repeat (first | refine blk_drewN ?_ _ | refine blk_drew ?_ | refine blk_alloc ?_ _)); refine blk_put (cs := #[.int .i64 t194, .int .i64 0, .slice none 0 0]) ?_ 1 _ rfl; (with_reducible repeat (first | refine blk_drewN ?_ _ | refine blk_drew ?_ | refine blk_alloc ?_ _)); refine blk_put (cs := #[.int .i64 0, .int .i64 0, .slice none 0 0]) ?_ 0 _ rfl; (with_reducible repeat (first | refine blk_drewN ?_ _ | refine blk_drew ?_ | refine blk_alloc ?_ _)); exact BK200.out) hb) (aE (bs hb)))); clear HO198 BK186 BK200 HB; obtain ⟨HO198, BK186, BK200, HB⟩ := n_; (try clear hb)) | (go_at_call 6; (with_reducible refine (incunablelaw05_Sane.calls kj10  t202 _ A27.out).mono ?_); rintro e w35 ⟨rfl, hb⟩; have n_ := aC (Kd.R_below (rU HO198.out) hb) (aC (blk_below (bU BK186.out) hb) (aC (blk_below (bU BK200.out) hb) (aE (bs hb)))); clear HO198 BK186 BK200 HB; obtain ⟨HO198, BK186, BK200, HB⟩ := n_; (try clear hb)))
         go_ret
         exact ⟨re, bl⟩
        ·replace c26 := Bool.eq_false_iff.mpr c26
         subst c26
         have H1 : (some false) = some r := by rw [if_neg (show ¬ (false = true) by decide)] at H; exact H
         clear H
         have H := H1
         clear H1
         exact absurd ((Option.some.inj H).trans HR_.out) (by decide)
       ·rw [if_neg c24] at H
        have c24b0 := beq_eq_false_iff_ne.mpr c24
        have c24b1 := bne_iff_ne.mpr c24
        exact absurd ((Option.some.inj H).trans HR_.out) (by decide)
      ·rw [if_neg c23] at H
       have c23b0 := beq_eq_false_iff_ne.mpr c23
       have c23b1 := bne_iff_ne.mpr c23
       by_cases c36 : t199 = 0
       ·rw [if_pos c36] at H
        have c36b0 := beq_iff_eq.mpr c36
        have c36b1 := bne_eq_false_iff_eq.mpr c36
        clear c36
        replace H := Option.bind_eq_some_iff.mp H
        obtain ⟨t203, A370, H⟩ := H
        replace H : (if t203 = true then ((incunablelaw05_Sane.f kj10).bind fun t204 => (some t204)) else (some false)) = some r := H
        have A37 := Aside0.mk A370
        clear A370
        by_cases c38 : t203 = true
        ·subst c38
         have H1 : ((incunablelaw05_Sane.f kj10).bind fun t204 => (some t204)) = some r := by rw [if_pos rfl] at H; exact H
         clear H
         have H := H1
         clear H1
         replace H := Option.bind_eq_some_iff.mp H
         obtain ⟨t204, A390, H⟩ := H
         replace H : (some t204) = some r := H
         have A39 := Aside0.mk A390
         clear A390
         obtain rfl := Option.some.inj H
         go_wp2_with (first | ((with_reducible refine gf 9 rfl ?_); refine gL (some 34) rfl rfl Tryd.func9 rfl #[.string t189] rfl ?_; (with_reducible refine (bitmap_Parse.calls kj10 t189 t194 t195 t196 t199 _ (TIs.on HTI) A22.out).mono ?_); rintro e w40 ⟨v197, rfl, ho0, hb⟩; refine ⟨_, rfl, ?_⟩; have n_ := aC (Kd.R_lower ho0 bz) (aC (blk_below (bU BK186.out) hb) (aE (bs hb))); clear BK186 HB; obtain ⟨HO198, BK186, HB⟩ := n_; (try clear hb); (try clear ho0)) | ((with_reducible refine gd 7 rfl ?_); refine bx 7 #[.int .i64 0, .int .i64 0, .slice none 0 0] 24 rfl rfl ?_; intro gb200 hg w41 hbox hb; have n_ := aC (Kd.R_below (rU HO198.out) hb) (aC (blk_below (bU BK186.out) hb) (aC (bs hb) (aC hbox (aC (gz hg) (aC (gz hg) (aC (gn hg (bU BK186.out)) (aE (gm hg (bU BK186.out))))))))); clear HO198 BK186 HB; obtain ⟨HO198, BK186, HB, BK200, GW200, GE200, NB186_200, NB200_186⟩ := n_; clear hb hbox hg; have hnb42 := NB200_186.out; have hnc42 := NB186_200.out; obtain ⟨hcz43_0, hcz43_1, hcz43_2, hfz43_0, hfz43_1, hfz43_2⟩ := cz3f BK200.out; obtain ⟨Ao44, co44, eo44⟩ := Kd.R_slice HO198.out; subst eo44; obtain ⟨hcz45_0, hcz45_1, hcz45_2, hfz45_0, hfz45_1, hfz45_2⟩ := cz3f BK186.out) | (go_at_call 10; (with_reducible refine (incunableref05_Same.calls t194 t195 _ _ t196 a0_0 a0_1 _ _ l0_2 true _ ?side1 ?side2 ?side3 ?side4 A37.out).mono ?_); (case side1 => refine (Kd.R_reads' (e := 5) (base := w.heap.size) (ok := fun k_ => True) (n := t196.length) (c := co44) ?_).2.2; exact (rU (Kd.R_mono (Kd.R_far (p := ⟨gb200, 2, none⟩) (Kd.R_far (p := ⟨gb200, 1, none⟩) (Kd.R_far (p := ⟨gb200, 0, none⟩) (Kd.R_types HO198.out BK200.out (by decide)) (fun _ hk => hk.2) (.int .i64 t194)) (fun _ hk => hk.2) (.int .i64 t195)) (fun _ hk => hk.2) (.slice Ao44 t196.length co44)) (fun _ h_ => h_.1)))); (case side2 => exact (Kd.R_reads' HO198.out).2.1); (case side3 => exact Kd.C_below HR0_2.out bl); (case side4 => exact HC0_2.out); rintro e w46 ⟨rfl, hb⟩; have n_ := aC (Kd.R_below (rU (Kd.R_mono (Kd.R_far (p := ⟨gb200, 2, none⟩) (Kd.R_far (p := ⟨gb200, 1, none⟩) (Kd.R_far (p := ⟨gb200, 0, none⟩) (Kd.R_types HO198.out BK200.out (by decide)) (fun _ hk => hk.2) (.int .i64 t194)) (fun _ hk => hk.2) (.int .i64 t195)) (fun _ hk => hk.2) (.slice Ao44 t196.length co44)) (fun _ h_ => h_.1))) hb) (aC (blk_below (g := gb186) (o := .cells #[.int .i64 a0_0, .int .i64 a0_1, .slice A0_2 l0_2.length c0_2] 24 (0, 0)) (by (with_reducible repeat (first | refine blk_drewN ?_ _ | refine blk_drew ?_ | refine blk_alloc ?_ _)); refine blk_far ?_ NB186_200.out _; (with_reducible repeat (first | refine blk_drewN ?_ _ | refine blk_drew ?_ | refine blk_alloc ?_ _)); refine blk_far ?_ NB186_200.out _; (with_reducible repeat (first | refine blk_drewN ?_ _ | refine blk_drew ?_ | refine blk_alloc ?_ _)); refine blk_far ?_ NB186_200.out _; (with_reducible repeat (first | refine blk_drewN ?_ _ | refine blk_drew ?_ | refine blk_alloc ?_ _)); exact BK186.out) hb) (aC (blk_below (g := gb200) (o := .cells #[.int .i64 t194, .int .i64 t195, .slice Ao44 t196.length co44] 24 (0, 0)) (by (with_reducible repeat (first | refine blk_drewN ?_ _ | refine blk_drew ?_ | refine blk_alloc ?_ _)); refine blk_put (cs := #[.int .i64 t194, .int .i64 t195, .slice none 0 0]) ?_ 2 _ rfl; (with_reducible repeat (first | refine blk_drewN ?_ _ | refine blk_drew ?_ | refine blk_alloc ?_ _)); refine blk_put (cs := #[.int .i64 t194, .int .i64 0, .slice none 0 0]) ?_ 1 _ rfl; (with_reducible repeat (first | refine blk_drewN ?_ _ | refine blk_drew ?_ | refine blk_alloc ?_ _)); refine blk_put (cs := #[.int .i64 0, .int .i64 0, .slice none 0 0]) ?_ 0 _ rfl; (with_reducible repeat (first | refine blk_drewN ?_ _ | refine blk_drew ?_ | refine blk_alloc ?_ _)); exact BK200.out) hb) (aE (bs hb)))); clear HO198 BK186 BK200 HB; obtain ⟨HO198, BK186, BK200, HB⟩ := n_; (try clear hb)) | (go_at_call 6; (with_reducible refine (incunablelaw05_Sane.calls kj10  t204 _ A39.out).mono ?_); rintro e w47 ⟨rfl, hb⟩; have n_ := aC (Kd.R_below (rU HO198.out) hb) (aC (blk_below (bU BK186.out) hb) (aC (blk_below (bU BK200.out) hb) (aE (bs hb)))); clear HO198 BK186 BK200 HB; obtain ⟨HO198, BK186, BK200, HB⟩ := n_; (try clear hb)))
         go_ret
         exact ⟨re, bl⟩
        ·replace c38 := Bool.eq_false_iff.mpr c38
         subst c38
         have H1 : (some false) = some r := by rw [if_neg (show ¬ (false = true) by decide)] at H; exact H
         clear H
         have H := H1
         clear H1
         exact absurd ((Option.some.inj H).trans HR_.out) (by decide)
       ·rw [if_neg c36] at H
        have c36b0 := beq_eq_false_iff_ne.mpr c36
        have c36b1 := bne_iff_ne.mpr c36
        exact absurd ((Option.some.inj H).trans HR_.out) (by decide)
     ·rw [if_neg c21] at H
      have c21b0 := beq_eq_false_iff_ne.mpr c21
      have c21b1 := bne_iff_ne.mpr c21
      replace H := Option.bind_eq_some_iff.mp H
      obtain ⟨t193, A480, H⟩ := H
      replace H : (some t193) = some r := H
      have A48 := Aside0.mk A480
      clear A480
      obtain rfl := Option.some.inj H
      go_wp2_with (first | ((with_reducible refine gf 6 rfl ?_); refine gL (some 31) rfl rfl Tryd.func6 rfl #[] rfl ?_; (with_reducible refine (incunablelaw05_Sane.calls kj10  t193 _ A48.out).mono ?_); rintro e w49 ⟨rfl, hb⟩; refine ⟨_, rfl, ?_⟩; have n_ := aC (blk_below (bU BK186.out) hb) (aE (bs hb)); clear BK186 HB; obtain ⟨BK186, HB⟩ := n_; (try clear hb)))
      go_ret
      exact ⟨re, bl⟩

/-- THE ONE PURE STATEMENT of incunablelaw05_BitmapFormats: yours. -/
def incunablelaw05_BitmapFormats.Pure : Prop := ∀ (a0_0 : Int) (a0_1 : Int) (l0_2 : List Int), ((Lit.int .i64 a0_0).wf = true) → ((Lit.int .i64 a0_1).wf = true) → (l0_2.length ≤ 9223372036854775807 ∧ l0_2.length * 1 ≤ 140737488351232 ∧ ∀ y0_ ∈ l0_2, (Lit.int .u8 y0_).wf = true) → ∃ k, incunablelaw05_BitmapFormats.f k a0_0 a0_1 l0_2 = some true
theorem incunablelaw05_BitmapFormats.walk (P : incunablelaw05_BitmapFormats.Pure) (a0_0 : Int) (a0_1 : Int) (A0_2 : Option Addr) (c0_2 : Nat) (l0_2 : List Int) (w : World) (hT0 : TIs w) (hr0_2 : Kd.C (Kd.int .u8) w A0_2 l0_2.length l0_2) (hc0_2 : l0_2.length ≤ c0_2) (g0_0 : (Lit.int .i64 a0_0).wf = true) (g0_1 : (Lit.int .i64 a0_1).wf = true) (g0_2 : l0_2.length ≤ 9223372036854775807 ∧ l0_2.length * 1 ≤ 140737488351232 ∧ ∀ y0_ ∈ l0_2, (Lit.int .u8 y0_).wf = true) :
  Calls Tryd.prog 3 #[.agg #[.int .i64 a0_0, .int .i64 a0_1, .slice A0_2 l0_2.length c0_2]] w fun e w' => e = .returned (.bool true) ∧ Below w.heap.size w w' := by
 obtain ⟨k, h⟩ := P a0_0 a0_1 l0_2 g0_0 g0_1 g0_2
 refine (incunablelaw05_BitmapFormats.calls k a0_0 a0_1 A0_2 c0_2 l0_2 true w hT0 hr0_2 hc0_2 h rfl).mono ?_
 rintro e w' ⟨rfl, hd⟩
 exact ⟨rfl, hd⟩

end Go.Proofs.YtgcjhpcegmblgaaDoor.PBitmapFormats
