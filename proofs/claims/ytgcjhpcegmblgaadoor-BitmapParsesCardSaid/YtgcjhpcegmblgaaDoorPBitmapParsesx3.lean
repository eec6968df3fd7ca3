-- Written by a program of this session (wip/tools/myprint.py) over the kit's print. Not trusted: Lean checks it.
import Derived.Test.YtgcjhpcegmblgaaDoorPBitmapParsesx0
import Derived.Test.YtgcjhpcegmblgaaDoorPBitmapParsesx1
import Derived.Test.YtgcjhpcegmblgaaDoorPBitmapParsesx2
namespace Go.Proofs.YtgcjhpcegmblgaaDoor.PBitmapParses
open Go.RowKit Go.Proofs.YtgcjhpcegmblgaaDoorW.PrintWords Go.Proofs.YtgcjhpcegmblgaaDoorW.PrintLast Go.Proofs.YtgcjhpcegmblgaaDoorW.PrintMore
attribute [local go_sem] max2_int min2_int max_two min_two max_three min_three max_four min_four   -- for this text's walks alone
set_option linter.unusedVariables false
set_option linter.unusedSimpArgs false

/-! ### incunablelaw05_Sane: function 6 -/
def incunablelaw05_Sane.f (k : Nat)  : Option (Bool) := (bitmap_Turn.f k 2 1 (([1, 0] : List Int)) 1).bind fun bt137 => (if bt137.2.2.2 = 0 then ((incunableref05_Same.f bt137.1 bt137.2.1 bt137.2.2.1 1 2 (([1, 0] : List Int))).bind fun t147 => (some t147)) else (some false))
theorem incunablelaw05_Sane.mono : ∀ k, LeO (incunablelaw05_Sane.f k ) (incunablelaw05_Sane.f (k + 1) ) := by
 intro  k
 unfold incunablelaw05_Sane.f
 repeat' first
   | (with_reducible exact bitmap_Turn.mono _ _ _ _ _)
   | (with_reducible first | exact LeO.refl _ | exact LeO.none _ | refine LeO.ite ?_ ?_ | refine LeO.bind ?_ (fun _ => ?_))
   | exact bitmap_Turn.mono _ _ _ _ _
   | exact LeO.none _ | refine LeO.ite ?_ ?_ | refine LeO.bind ?_ (fun _ => ?_)
set_option maxHeartbeats 8000000 in
set_option maxRecDepth 100000 in
theorem incunablelaw05_Sane.calls (k : Nat)  (r : Bool) (w : World) (h : incunablelaw05_Sane.f k  = some r) :
  Calls Tryd.prog 6 #[] w fun e w' => e = .returned (.bool r) ∧ Below w.heap.size w w' := by
 have hu24 := Tryd.underlying24
 have HB := Aside0.mk (Below.refl w.heap.size w)
 have H : ((bitmap_Turn.f k 2 1 (([1, 0] : List Int)) 1).bind fun bt137 => (if bt137.2.2.2 = 0 then ((incunableref05_Same.f bt137.1 bt137.2.1 bt137.2.2.1 1 2 (([1, 0] : List Int))).bind fun t147 => (some t147)) else (some false))) = some r := h
 clear h
 obtain ⟨y134, hy_⟩ : ∃ y_ : List Int, y_ = (([1, 0] : List Int)) := ⟨_, rfl⟩
 replace H : ((bitmap_Turn.f k 2 1 y134 1).bind fun bt137 => (if bt137.2.2.2 = 0 then ((incunableref05_Same.f bt137.1 bt137.2.1 bt137.2.2.1 1 2 (([1, 0] : List Int))).bind fun t147 => (some t147)) else (some false))) = some r := rh
 have Ny134 := aE hy_
 clear hy_
 replace H := Option.bind_eq_some_iff.mp H
 obtain ⟨⟨t137, t138, t139, t142⟩, A10, H⟩ := H
 replace H : (if t142 = 0 then ((incunableref05_Same.f t137 t138 t139 1 2 (([1, 0] : List Int))).bind fun t147 => (some t147)) else (some false)) = some r := H
 have A1 := Aside0.mk A10
 clear A10
 by_cases c2 : t142 = 0
 ·rw [if_pos c2] at H
  have c2b0 := beq_iff_eq.mpr c2
  have c2b1 := bne_eq_false_iff_eq.mpr c2
  clear c2
  obtain ⟨y144, hy_⟩ : ∃ y_ : List Int, y_ = (([1, 0] : List Int)) := ⟨_, rfl⟩
  replace H : ((incunableref05_Same.f t137 t138 t139 1 2 y144).bind fun t147 => (some t147)) = some r := rh
  have Ny144 := aE hy_
  clear hy_
  replace H := Option.bind_eq_some_iff.mp H
  obtain ⟨t147, A30, H⟩ := H
  replace H : (some t147) = some r := H
  have A3 := Aside0.mk A30
  clear A30
  obtain rfl := Option.some.inj H
  go_enter Tryd.func6, Tryd.ntmps6
  go_wp2_with (first | ((with_reducible refine gd 4 rfl ?_); (try (refine gate_guard (by rfl) ?_; dsimp only)); refine Kd.R_lit (Kd.int .u8) _ 5 ?hg (N := 4) ?hd (xs := ([1, 0] : List Int)) (inner := [.int .u8 1, .int .u8 0]) (ok := fun _ => True) (okp := fun _ => True) ?hr ?hp (fun _ hk => hk) trivial (Below.refl _ _) (Nat.le_refl _) (by simp) ?_; (case hd => rfl); (case hg => rfl); (case hr => first | (go_simp; done) | (go_simp; rfl)); (case hp => exact (Reps.one (show Kd.M (Kd.int .u8) _ _ _ 1 [.int .u8 1] from rfl) (Reps.one (show Kd.M (Kd.int .u8) _ _ _ 0 [.int .u8 0] from rfl) (Reps.none _ _)))); intro v135 w4 ho5 hb hg_ hnew_; clear hg_ hnew_; (first | rw [← Ny134.out] at ho5 | (simp only [Int.reduceToNat] at ho5; rw [← Ny134.out] at ho5)); have n_ := aC (Kd.R_lower ho5 bz) (aE (bs hb)); clear HB; obtain ⟨HO136, HB⟩ := n_; clear hb ho5; obtain ⟨Ao6, co6, eo6⟩ := Kd.R_slice HO136.out; subst eo6) | ((with_reducible refine gf 12 rfl ?_); refine gL (some 6) rfl rfl Tryd.func12 rfl #[.agg #[.int .i64 2, .int .i64 1, .slice Ao6 y134.length co6], .int .i64 1] rfl ?_; (with_reducible refine (bitmap_Turn.calls k 2 1 _ _ y134 1 t137 t138 t139 t142 _ ?side1 ?side2 A1.out).mono ?_); (case side1 => exact cU (Kd.R_reads' HO136.out).2.2); (case side2 => exact (Kd.R_reads' HO136.out).2.1); rintro e w7 ⟨v140, rfl, ho0, hb⟩; refine ⟨_, rfl, ?_⟩; have n_ := aC (Kd.R_elder' (rU HO136.out) (Kd.R_base ho0) hb) (aC (Kd.R_lower (Kd.R_new' ho0 (Kd.R_lt (rU HO136.out))) bz) (aE (bs hb))); clear HO136 HB; obtain ⟨HO136, HO141, HB⟩ := n_; (try clear hb); (try clear ho0)) | ((with_reducible refine gd 1 rfl ?_); (try (refine gate_guard (by rfl) ?_; dsimp only)); refine bx 1 #[.int .i64 0, .int .i64 0, .slice none 0 0] 24 rfl rfl ?_; intro gb143 hg w8 hbox hb; have n_ := aC (Kd.R_below (rU HO136.out) hb) (aC (Kd.R_below (rU HO141.out) hb) (aC (bs hb) (aC hbox (aC (gz hg) (aE (gz hg)))))); clear HO136 HO141 HB; obtain ⟨HO136, HO141, HB, BK143, GW143, GE143⟩ := n_; clear hb hbox hg; obtain ⟨hcz9_0, hcz9_1, hcz9_2, hfz9_0, hfz9_1, hfz9_2⟩ := cz3f BK143.out; obtain ⟨Ao10, co10, eo10⟩ := Kd.R_slice HO141.out; subst eo10) | ((with_reducible refine gd 13 rfl ?_); (try (refine gate_guard (by rfl) ?_; dsimp only)); refine Kd.R_lit (Kd.int .u8) _ 5 ?hg (N := 13) ?hd (xs := ([1, 0] : List Int)) (inner := [.int .u8 1, .int .u8 0]) (ok := fun _ => True) (okp := fun _ => True) ?hr ?hp (fun _ hk => hk) trivial (Below.refl _ _) (Nat.le_refl _) (by simp) ?_; (case hd => rfl); (case hg => rfl); (case hr => first | (go_simp; done) | (go_simp; rfl)); (case hp => exact (Reps.one (show Kd.M (Kd.int .u8) _ _ _ 1 [.int .u8 1] from rfl) (Reps.one (show Kd.M (Kd.int .u8) _ _ _ 0 [.int .u8 0] from rfl) (Reps.none _ _)))); intro v145 w11 ho12 hb hg_ hnew_; clear hg_ hnew_; (first | rw [← Ny144.out] at ho12 | (simp only [Int.reduceToNat] at ho12; rw [← Ny144.out] at ho12)); have n_ := aC (Kd.R_elder' (rU (Kd.R_mono (Kd.R_far (p := ⟨gb143, 2, none⟩) (Kd.R_far (p := ⟨gb143, 1, none⟩) (Kd.R_far (p := ⟨gb143, 0, none⟩) (Kd.R_types HO136.out BK143.out (by decide)) (fun _ hk => hk.2) (.int .i64 t137)) (fun _ hk => hk.2) (.int .i64 t138)) (fun _ hk => hk.2) (.slice Ao10 t139.length co10)) (fun _ h_ => h_.1))) (Kd.R_base ho12) hb) (aC (Kd.R_elder' (rU (Kd.R_mono (Kd.R_far (p := ⟨gb143, 2, none⟩) (Kd.R_far (p := ⟨gb143, 1, none⟩) (Kd.R_far (p := ⟨gb143, 0, none⟩) (Kd.R_types HO141.out BK143.out (by decide)) (fun _ hk => hk.2) (.int .i64 t137)) (fun _ hk => hk.2) (.int .i64 t138)) (fun _ hk => hk.2) (.slice Ao10 t139.length co10)) (fun _ h_ => h_.1))) (Kd.R_base ho12) hb) (aC (Kd.R_lower (Kd.R_new' (Kd.R_new' ho12 (Kd.R_lt (rU (Kd.R_mono (Kd.R_far (p := ⟨gb143, 2, none⟩) (Kd.R_far (p := ⟨gb143, 1, none⟩) (Kd.R_far (p := ⟨gb143, 0, none⟩) (Kd.R_types HO136.out BK143.out (by decide)) (fun _ hk => hk.2) (.int .i64 t137)) (fun _ hk => hk.2) (.int .i64 t138)) (fun _ hk => hk.2) (.slice Ao10 t139.length co10)) (fun _ h_ => h_.1))))) (Kd.R_lt (rU (Kd.R_mono (Kd.R_far (p := ⟨gb143, 2, none⟩) (Kd.R_far (p := ⟨gb143, 1, none⟩) (Kd.R_far (p := ⟨gb143, 0, none⟩) (Kd.R_types HO141.out BK143.out (by decide)) (fun _ hk => hk.2) (.int .i64 t137)) (fun _ hk => hk.2) (.int .i64 t138)) (fun _ hk => hk.2) (.slice Ao10 t139.length co10)) (fun _ h_ => h_.1))))) bz) (aC (blk_below (g := gb143) (o := .cells #[.int .i64 t137, .int .i64 t138, .slice Ao10 t139.length co10] 24 (0, 0)) (by (with_reducible repeat (first | refine blk_drewN ?_ _ | refine blk_drew ?_ | refine blk_alloc ?_ _)); refine blk_put (cs := #[.int .i64 t137, .int .i64 t138, .slice none 0 0]) ?_ 2 _ rfl; (with_reducible repeat (first | refine blk_drewN ?_ _ | refine blk_drew ?_ | refine blk_alloc ?_ _)); refine blk_put (cs := #[.int .i64 t137, .int .i64 0, .slice none 0 0]) ?_ 1 _ rfl; (with_reducible repeat (first | refine blk_drewN ?_ _ | refine blk_drew ?_ | refine blk_alloc ?_ _)); refine blk_put (cs := #[.int .i64 0, .int .i64 0, .slice none 0 0]) ?_ 0 _ rfl; (with_reducible repeat (first | refine blk_drewN ?_ _ | refine blk_drew ?_ | refine blk_alloc ?_ _)); exact BK143.out) hb) (aE (bs hb))))); clear HO136 HO141 BK143 HB; obtain ⟨HO136, HO141, HO146, BK143, HB⟩ := n_; clear hb ho12; obtain ⟨Ao13, co13, eo13⟩ := Kd.R_slice HO146.out; subst eo13) | (go_at_call 10; (with_reducible refine (incunableref05_Same.calls t137 t138 _ _ t139 1 2 _ _ y144 t147 _ ?side1 ?side2 ?side3 ?side4 A3.out).mono ?_); (case side1 => exact cU (Kd.R_reads' HO141.out).2.2); (case side2 => exact (Kd.R_reads' HO141.out).2.1); (case side3 => exact cU (Kd.R_reads' HO146.out).2.2); (case side4 => exact (Kd.R_reads' HO146.out).2.1); rintro e w14 ⟨rfl, hb⟩; have n_ := aC (Kd.R_below (rU HO136.out) hb) (aC (Kd.R_below (rU HO141.out) hb) (aC (Kd.R_below (rU HO146.out) hb) (aC (blk_below (bU BK143.out) hb) (aE (bs hb))))); clear HO136 HO141 HO146 BK143 HB; obtain ⟨HO136, HO141, HO146, BK143, HB⟩ := n_; (try clear hb)))
  go_ret
  exact ⟨re, bl⟩
 ·rw [if_neg c2] at H
  have c2b0 := beq_eq_false_iff_ne.mpr c2
  have c2b1 := bne_iff_ne.mpr c2
  obtain rfl := Option.some.inj H
  go_enter Tryd.func6, Tryd.ntmps6
  go_wp2_with (first | ((with_reducible refine gd 4 rfl ?_); (try (refine gate_guard (by rfl) ?_; dsimp only)); refine Kd.R_lit (Kd.int .u8) _ 5 ?hg (N := 4) ?hd (xs := ([1, 0] : List Int)) (inner := [.int .u8 1, .int .u8 0]) (ok := fun _ => True) (okp := fun _ => True) ?hr ?hp (fun _ hk => hk) trivial (Below.refl _ _) (Nat.le_refl _) (by simp) ?_; (case hd => rfl); (case hg => rfl); (case hr => first | (go_simp; done) | (go_simp; rfl)); (case hp => exact (Reps.one (show Kd.M (Kd.int .u8) _ _ _ 1 [.int .u8 1] from rfl) (Reps.one (show Kd.M (Kd.int .u8) _ _ _ 0 [.int .u8 0] from rfl) (Reps.none _ _)))); intro v135 w15 ho16 hb hg_ hnew_; clear hg_ hnew_; (first | rw [← Ny134.out] at ho16 | (simp only [Int.reduceToNat] at ho16; rw [← Ny134.out] at ho16)); have n_ := aC (Kd.R_lower ho16 bz) (aE (bs hb)); clear HB; obtain ⟨HO136, HB⟩ := n_; clear hb ho16; obtain ⟨Ao17, co17, eo17⟩ := Kd.R_slice HO136.out; subst eo17) | ((with_reducible refine gf 12 rfl ?_); refine gL (some 6) rfl rfl Tryd.func12 rfl #[.agg #[.int .i64 2, .int .i64 1, .slice Ao17 y134.length co17], .int .i64 1] rfl ?_; (with_reducible refine (bitmap_Turn.calls k 2 1 _ _ y134 1 t137 t138 t139 t142 _ ?side1 ?side2 A1.out).mono ?_); (case side1 => exact cU (Kd.R_reads' HO136.out).2.2); (case side2 => exact (Kd.R_reads' HO136.out).2.1); rintro e w18 ⟨v140, rfl, ho0, hb⟩; refine ⟨_, rfl, ?_⟩; have n_ := aC (Kd.R_elder' (rU HO136.out) (Kd.R_base ho0) hb) (aC (Kd.R_lower (Kd.R_new' ho0 (Kd.R_lt (rU HO136.out))) bz) (aE (bs hb))); clear HO136 HB; obtain ⟨HO136, HO141, HB⟩ := n_; (try clear hb); (try clear ho0)) | ((with_reducible refine gd 1 rfl ?_); (try (refine gate_guard (by rfl) ?_; dsimp only)); refine bx 1 #[.int .i64 0, .int .i64 0, .slice none 0 0] 24 rfl rfl ?_; intro gb143 hg w19 hbox hb; have n_ := aC (Kd.R_below (rU HO136.out) hb) (aC (Kd.R_below (rU HO141.out) hb) (aC (bs hb) (aC hbox (aC (gz hg) (aE (gz hg)))))); clear HO136 HO141 HB; obtain ⟨HO136, HO141, HB, BK143, GW143, GE143⟩ := n_; clear hb hbox hg; obtain ⟨hcz20_0, hcz20_1, hcz20_2, hfz20_0, hfz20_1, hfz20_2⟩ := cz3f BK143.out; obtain ⟨Ao21, co21, eo21⟩ := Kd.R_slice HO141.out; subst eo21))
  go_ret
  exact ⟨re, bl⟩

-- NOT PRINTED: function 37 (abi_NoEscape)

-- NOT PRINTED: function 25 (strings_Builder_copyCheck)

-- NOT PRINTED: function 14 (strings_Builder_WriteByte)

-- NOT PRINTED: function 16 (strings_Builder_String)

/-! ### bitmap_Format: function 7 -/
mutual
def bitmap_Format.l0 : Nat → List UInt8 → Int → Int → Int → List Int → Option (ByteArray × Int)
 | 0, _, _, _, _, _ => none
 | k + 1, x4, x5, a0, a1, l2 => if x5 < a1 then (bitmap_Format.l1 k x4 x5 0 a0 a1 l2) else (some (⟨x4.toArray⟩, 0))
def bitmap_Format.l1 : Nat → List UInt8 → Int → Int → Int → Int → List Int → Option (ByteArray × Int)
 | 0, _, _, _, _, _, _ => none
 | k + 1, x4, x5, x6, a0, a1, l2 => if x6 < a0 then ((bitmap_at.f a0 a1 l2 x6 x5).bind fun t => (if 0 ≤ t then (if t < 2 then (if x4.length < 140737488355328 then (bitmap_Format.l1 k (x4 ++ [UInt8.ofNat (bt (⟨#[46, 35]⟩ : ByteArray) t).toNat]) x5 (wrap64 (x6 + 1)) a0 a1 l2) else (none)) else (none)) else (none))) else (if x4.length < 140737488355328 then (bitmap_Format.l0 k (x4 ++ [10]) (wrap64 (x5 + 1)) a0 a1 l2) else (none))
end
def bitmap_Format.f (k : Nat) (a0_0 : Int) (a0_1 : Int) (l0_2 : List Int) : Option (ByteArray × Int) := (bitmap_Valid.f k a0_0 a0_1 l0_2).bind fun t159 => (if t159 = true then (bitmap_Format.l0 k [] 0 a0_0 a0_1 l0_2) else (some ((⟨#[]⟩ : ByteArray), 30)))
theorem bitmap_Format.mono_l : ∀ k, (∀ y0 y1 y2 y3 y4, LeO (bitmap_Format.l0 k y0 y1 y2 y3 y4) (bitmap_Format.l0 (k + 1) y0 y1 y2 y3 y4)) ∧ (∀ y0 y1 y2 y3 y4 y5, LeO (bitmap_Format.l1 k y0 y1 y2 y3 y4 y5) (bitmap_Format.l1 (k + 1) y0 y1 y2 y3 y4 y5))
 | 0 => ⟨fun _ _ _ _ _ r h => by simp [bitmap_Format.l0] at h, fun _ _ _ _ _ _ r h => by simp [bitmap_Format.l1] at h⟩
 | k + 1 => by
  obtain ⟨ih0, ih1⟩ := bitmap_Format.mono_l k
  refine ⟨?_, ?_⟩
  ·intro y0 y1 y2 y3 y4
   unfold bitmap_Format.l0
   repeat' first
   | (with_reducible exact ih0 _ _ _ _ _)
   | (with_reducible exact ih1 _ _ _ _ _ _)
   | (with_reducible first | exact LeO.refl _ | exact LeO.none _ | refine LeO.ite ?_ ?_ | refine LeO.bind ?_ (fun _ => ?_))
  ·intro y0 y1 y2 y3 y4 y5
   unfold bitmap_Format.l1
   repeat' first
   | (with_reducible exact ih0 _ _ _ _ _)
   | (with_reducible exact ih1 _ _ _ _ _ _)
   | (with_reducible first | exact LeO.refl _ | exact LeO.none _ | refine LeO.ite ?_ ?_ | refine LeO.bind ?_ (fun _ => ?_))
theorem bitmap_Format.mono : ∀ a0 a1 a2 k, LeO (bitmap_Format.f k a0 a1 a2) (bitmap_Format.f (k + 1) a0 a1 a2) := by
 intro a0 a1 a2 k
 obtain ⟨ih0, ih1⟩ := bitmap_Format.mono_l k
 unfold bitmap_Format.f
 repeat' first
   | (with_reducible exact ih0 _ _ _ _ _)
   | (with_reducible exact bitmap_Valid.mono _ _ _ _)
   | (with_reducible first | exact LeO.refl _ | exact LeO.none _ | refine LeO.ite ?_ ?_ | refine LeO.bind ?_ (fun _ => ?_))
   | exact bitmap_Valid.mono _ _ _ _
set_option maxHeartbeats 8000000 in
set_option maxRecDepth 100000 in
theorem bitmap_Format.calls (k : Nat) (a0_0 : Int) (a0_1 : Int) (A0_2 : Option Addr) (c0_2 : Nat) (l0_2 : List Int) (r1 : ByteArray) (r2 : Int) (w : World) (hr0_2 : Kd.C (Kd.int .u8) w A0_2 l0_2.length l0_2) (hc0_2 : l0_2.length ≤ c0_2) (h : bitmap_Format.f k a0_0 a0_1 l0_2 = some (r1, r2)) :
  Calls Tryd.prog 7 #[.agg #[.int .i64 a0_0, .int .i64 a0_1, .slice A0_2 l0_2.length c0_2]] w fun e w' => e = .returned (.tuple #[.string r1, .int .i64 r2]) ∧ Below w.heap.size w w' := by
 have hu24 := Tryd.underlying24
 have HR0_2 := Aside0.mk hr0_2
 have HC0_2 := Aside0.mk hc0_2
 clear hr0_2 hc0_2
 have HB := Aside0.mk (Below.refl w.heap.size w)
 have H : ((bitmap_Valid.f k a0_0 a0_1 l0_2).bind fun t159 => (if t159 = true then (bitmap_Format.l0 k [] 0 a0_0 a0_1 l0_2) else (some ((⟨#[]⟩ : ByteArray), 30)))) = some (r1, r2) := h
 clear h
 replace H := Option.bind_eq_some_iff.mp H
 obtain ⟨t159, A20, H⟩ := H
 replace H : (if t159 = true then (bitmap_Format.l0 k [] 0 a0_0 a0_1 l0_2) else (some ((⟨#[]⟩ : ByteArray), 30))) = some (r1, r2) := H
 have A2 := Aside0.mk A20
 clear A20
 by_cases c3 : t159 = true
 ·subst c3
  have H1 : (bitmap_Format.l0 k [] 0 a0_0 a0_1 l0_2) = some (r1, r2) := by rw [if_pos rfl] at H; exact H
  clear H
  have H := H1
  clear H1
  have H' := Aside0.mk H
  clear H
  go_enter Tryd.func7, Tryd.ntmps7
  go_wp2_with (first | ((with_reducible refine gd 1 rfl ?_); refine bx 1 #[.int .i64 a0_0, .int .i64 a0_1, .slice A0_2 l0_2.length c0_2] 24 rfl rfl ?_; intro gb158 hg w4 hbox hb; have n_ := aC (bs hb) (aC hbox (aC (gz hg) (aE (gz hg)))); clear HB; obtain ⟨HB, BK158, GW158, GE158⟩ := n_; clear hb hbox hg; obtain ⟨hcz5_0, hcz5_1, hcz5_2, hfz5_0, hfz5_1, hfz5_2⟩ := cz3f BK158.out) | ((with_reducible refine gf 13 rfl ?_); refine gL (some 8) rfl rfl Tryd.func13 rfl #[.agg #[.int .i64 a0_0, .int .i64 a0_1, .slice A0_2 l0_2.length c0_2]] rfl ?_; (with_reducible refine (bitmap_Valid.calls k a0_0 a0_1 _ _ l0_2 true _ ?side1 ?side2 A2.out).mono ?_); (case side1 => exact cU (Kd.C_below HR0_2.out HB.out)); (case side2 => exact HC0_2.out); rintro e w6 ⟨rfl, hb⟩; refine ⟨_, rfl, ?_⟩; have n_ := aC (blk_below (bU BK158.out) hb) (aE (bs hb)); clear BK158 HB; obtain ⟨BK158, HB⟩ := n_; (try clear hb)) | ((with_reducible refine gd 4 rfl ?_); refine bx 4 #[.pointer none, .slice none 0 0] 37 rfl rfl ?_; intro gb2 hg w7 hbox hb; have n_ := aC (blk_below (bU BK158.out) hb) (aC (bs hb) (aC (IsB.made hbox) (aC (gz hg) (aE (blk_lt_of hg (bU BK158.out)))))); clear BK158 HB; obtain ⟨BK158, HB, IB, GW2, LT2⟩ := n_; clear hb hbox hg; obtain ⟨hcz5_0, hcz5_1, hcz5_2, hfz5_0, hfz5_1, hfz5_2⟩ := cz3f BK158.out))
  go_loopg [12] k (fun kq v12 w' => ∃ (x4_1 : List UInt8) (x5_1 : Int), v12 = .int .i64 x5_1 ∧ Aside0 (bitmap_Format.l0 kq x4_1 x5_1 a0_0 a0_1 l0_2 = some (r1, r2)) ∧ Aside0 (kq ≤ k) ∧ Aside0 (IsB gb2 x4_1 w') ∧ Aside0 (w'.heap[gb158]? = some (.cells #[.int .i64 a0_0, .int .i64 a0_1, (.slice A0_2 l0_2.length c0_2)] 24 (0, 0))) ∧ Aside0 (Below w.heap.size w w'))
  case atStart => exact ⟨[], (0), rq, H', ⟨Nat.le_refl _⟩, ⟨IB.out⟩, ⟨bU BK158.out⟩, ⟨bl⟩⟩
  case round =>
   clear H' IB
   obtain ⟨x4_1, x5_1, rfl, HA, HK1, IB, BK158, HB⟩ := hrel
   cases gk with
   | zero => exact absurd HA.out (by simp [bitmap_Format.l0])
   | succ k1 =>
    have H := HA.out
    clear HA
    simp only [bitmap_Format.l0] at H
    by_cases c7 : x5_1 < a0_1
    ·rw [if_pos c7] at H
     have c7b0 := decide_eq_true c7
     clear c7
     have H' := Aside0.mk H
     clear H
     obtain ⟨hcz8_0, hcz8_1, hcz8_2, hfz8_0, hfz8_1, hfz8_2⟩ := cz3f BK158.out
     go_wp2
     go_loopg [17] k1 (fun kq v17 w' => ∃ (x4_2 : List UInt8) (x6_2 : Int), v17 = .int .i64 x6_2 ∧ Aside0 (bitmap_Format.l1 kq x4_2 x5_1 x6_2 a0_0 a0_1 l0_2 = some (r1, r2)) ∧ Aside0 (kq ≤ k1) ∧ Aside0 (IsB gb2 x4_2 w') ∧ Aside0 (w'.heap[gb158]? = some (.cells #[.int .i64 a0_0, .int .i64 a0_1, (.slice A0_2 l0_2.length c0_2)] 24 (0, 0))) ∧ Aside0 (Below w.heap.size w w'))
     case atStart => exact ⟨(x4_1), (0), rq, H', ⟨Nat.le_refl _⟩, ⟨IB.out⟩, ⟨bU BK158.out⟩, ⟨bl⟩⟩
     case round =>
      clear H' IB
      obtain ⟨x4_2, x6_2, rfl, HA, HK2, IB, BK158, HB⟩ := hrel
      cases gk with
      | zero => exact absurd HA.out (by simp [bitmap_Format.l1])
      | succ k2 =>
       have H := HA.out
       clear HA
       simp only [bitmap_Format.l1] at H
       by_cases c9 : x6_2 < a0_0
       ·rw [if_pos c9] at H
        have c9b0 := decide_eq_true c9
        clear c9
        replace H := Option.bind_eq_some_iff.mp H
        obtain ⟨t160, A100, H⟩ := H
        replace H : (if 0 ≤ t160 then (if t160 < 2 then (if x4_2.length < 140737488355328 then (bitmap_Format.l1 k2 (x4_2 ++ [UInt8.ofNat (bt (⟨#[46, 35]⟩ : ByteArray) t160).toNat]) x5_1 (wrap64 (x6_2 + 1)) a0_0 a0_1 l0_2) else (none)) else (none)) else (none)) = some (r1, r2) := H
        have A10 := Aside0.mk A100
        clear A100
        by_cases c11 : 0 ≤ t160
        ·rw [if_pos c11] at H
         have c11b0 := decide_eq_true c11
         clear c11
         by_cases c12 : t160 < 2
         ·rw [if_pos c12] at H
          have c12b0 := decide_eq_true c12
          clear c12
          by_cases c14 : x4_2.length < 140737488355328
          ·rw [if_pos c14] at H
           have LMc14 := Aside0.mk c14
           clear c14
           have H' := Aside0.mk H
           clear H
           obtain ⟨hcz15_0, hcz15_1, hcz15_2, hfz15_0, hfz15_1, hfz15_2⟩ := cz3f BK158.out
           have CB := Aside0.mk (bt_two (of_decide_eq_true c11b0) (of_decide_eq_true c12b0))
           go_wp2_with (first | ((with_reducible refine gf 15 rfl ?_); refine gL (some 23) rfl rfl Tryd.func15 rfl #[.agg #[.int .i64 a0_0, .int .i64 a0_1, .slice A0_2 l0_2.length c0_2], .int .i64 x6_2, .int .i64 x5_1] rfl ?_; (with_reducible refine (bitmap_at.calls a0_0 a0_1 _ _ l0_2 x6_2 x5_1 t160 _ ?side1 ?side2 A10.out).mono ?_); (case side1 => exact cU (Kd.C_below HR0_2.out HB.out)); (case side2 => exact HC0_2.out); rintro e w16 ⟨rfl, hb⟩; refine ⟨_, rfl, ?_⟩; have n_ := aC (IB.out.below hb) (aC (blk_below (bU BK158.out) hb) (aE (bs hb))); clear IB BK158 HB; obtain ⟨IB, BK158, HB⟩ := n_; (try clear hb); have p13 : 0 ≤ (t160 : Int) := dt; have q13 : t160 < (2 : Int) := dt; have hx13 := bt_at (⟨#[46, 35]⟩ : ByteArray) t160; replace p13 := eq_true p13; replace q13 := eq_true q13) | ((with_reducible refine gf 14 rfl ?_); refine gL (some 25) rfl rfl Tryd.func14 rfl #[.pointer (some ⟨gb2, 0, none⟩), .int .u8 (bt (⟨#[46, 35]⟩ : ByteArray) t160)] rfl ?_; (with_reducible refine (writeByte_calls gb2 x4_2 (bt (⟨#[46, 35]⟩ : ByteArray) t160) CB.out.1 CB.out.2 LMc14.out _ IB.out).mono ?_); rintro e w17 ⟨rfl, hi, hb⟩; refine ⟨_, rfl, ?_⟩; have n_ := aC hi (aC (blk_under LT2.out BK158.out hb) (aE (bs_at GW2.out HB.out hb))); clear IB BK158 HB; obtain ⟨IB, BK158, HB⟩ := n_; clear hb hi))
           go_roundg k2
           case measure => have := HK1.out; have := HK2.out; omega
           case rel => exact ⟨_, (wrap64 (x6_2 + 1)), rq, H', ⟨by have := HK1.out; have := HK2.out; omega⟩, ⟨IB.out⟩, ⟨bU BK158.out⟩, ⟨bl⟩⟩
          ·rw [if_neg c14] at H
           exact absurd H (by simp)
         ·rw [if_neg c12] at H
          exact absurd H (by simp)
        ·rw [if_neg c11] at H
         exact absurd H (by simp)
       ·rw [if_neg c9] at H
        have c9b0 := decide_eq_false c9
        clear c9
        by_cases c18 : x4_2.length < 140737488355328
        ·rw [if_pos c18] at H
         have LMc18 := Aside0.mk c18
         clear c18
         have H' := Aside0.mk H
         clear H
         obtain ⟨hcz19_0, hcz19_1, hcz19_2, hfz19_0, hfz19_1, hfz19_2⟩ := cz3f BK158.out
         go_wp2_with (first | ((with_reducible refine gf 14 rfl ?_); refine gL (some 27) rfl rfl Tryd.func14 rfl #[.pointer (some ⟨gb2, 0, none⟩), .int .u8 10] rfl ?_; (with_reducible refine (writeByte_calls gb2 x4_2 10 (by decide) (by decide) LMc18.out _ IB.out).mono ?_); rintro e w17 ⟨rfl, hi, hb⟩; refine ⟨_, rfl, ?_⟩; have n_ := aC hi (aC (blk_under LT2.out BK158.out hb) (aE (bs_at GW2.out HB.out hb))); clear IB BK158 HB; obtain ⟨IB, BK158, HB⟩ := n_; clear hb hi))
         go_roundg k2
         case measure => have := HK1.out; have := HK2.out; omega
         case rel => exact ⟨_, (wrap64 (x5_1 + 1)), rq, H', ⟨by have := HK1.out; have := HK2.out; omega⟩, ⟨IB.out⟩, ⟨bU BK158.out⟩, ⟨bl⟩⟩
        ·rw [if_neg c18] at H
         exact absurd H (by simp)
    ·rw [if_neg c7] at H
     have c7b0 := decide_eq_false c7
     clear c7
     simp only [Option.some.injEq, Prod.mk.injEq] at H
     obtain ⟨rfl, rfl⟩ := H
     obtain ⟨hcz21_0, hcz21_1, hcz21_2, hfz21_0, hfz21_1, hfz21_2⟩ := cz3f BK158.out
     go_wp2_with (first | ((with_reducible refine gf 16 rfl ?_); refine gL (some 29) rfl rfl Tryd.func16 rfl #[.pointer (some ⟨gb2, 0, none⟩)] rfl ?_; (with_reducible refine (builderString_calls gb2 x4_1 _ IB.out).mono ?_); rintro e w17 ⟨rfl, hb⟩; refine ⟨_, rfl, ?_⟩; have n_ := aC (bs_at GW2.out HB.out hb) trivial; clear IB HB; obtain ⟨HB, _⟩ := n_; clear hb))
     go_ret2
     exact ⟨re, bl⟩
 ·replace c3 := Bool.eq_false_iff.mpr c3
  subst c3
  have H1 : (some ((⟨#[]⟩ : ByteArray), 30)) = some (r1, r2) := by rw [if_neg (show ¬ (false = true) by decide)] at H; exact H
  clear H
  have H := H1
  clear H1
  simp only [Option.some.injEq, Prod.mk.injEq] at H
  obtain ⟨rfl, rfl⟩ := H
  go_enter Tryd.func7, Tryd.ntmps7
  go_wp2_with (first | ((with_reducible refine gd 1 rfl ?_); refine bx 1 #[.int .i64 a0_0, .int .i64 a0_1, .slice A0_2 l0_2.length c0_2] 24 rfl rfl ?_; intro gb158 hg w23 hbox hb; have n_ := aC (bs hb) (aC hbox (aC (gz hg) (aE (gz hg)))); clear HB; obtain ⟨HB, BK158, GW158, GE158⟩ := n_; clear hb hbox hg; obtain ⟨hcz24_0, hcz24_1, hcz24_2, hfz24_0, hfz24_1, hfz24_2⟩ := cz3f BK158.out) | ((with_reducible refine gf 13 rfl ?_); refine gL (some 8) rfl rfl Tryd.func13 rfl #[.agg #[.int .i64 a0_0, .int .i64 a0_1, .slice A0_2 l0_2.length c0_2]] rfl ?_; (with_reducible refine (bitmap_Valid.calls k a0_0 a0_1 _ _ l0_2 false _ ?side1 ?side2 A2.out).mono ?_); (case side1 => exact cU (Kd.C_below HR0_2.out HB.out)); (case side2 => exact HC0_2.out); rintro e w25 ⟨rfl, hb⟩; refine ⟨_, rfl, ?_⟩; have n_ := aC (blk_below (bU BK158.out) hb) (aE (bs hb)); clear BK158 HB; obtain ⟨BK158, HB⟩ := n_; (try clear hb)))
  go_ret2
  exact ⟨re, bl⟩

/-! ### stringslite_HasSuffix: function 38 -/
def stringslite_HasSuffix.f (a0 : ByteArray) (a1 : ByteArray) : Option (Bool) := if (a0.size : Int) ≥ (a1.size : Int) then (if 0 ≤ (wrap64 ((a0.size : Int) - (a1.size : Int))) then (if (wrap64 ((a0.size : Int) - (a1.size : Int))) ≤ (a0.size : Int) then (some ((a0.extract ((wrap64 ((a0.size : Int) - (a1.size : Int))) : Int).toNat a0.size).toList == a1.toList)) else (none)) else (none)) else (some false)
set_option maxHeartbeats 8000000 in
set_option maxRecDepth 100000 in
theorem stringslite_HasSuffix.calls (a0 : ByteArray) (a1 : ByteArray) (r : Bool) (w : World) (h : stringslite_HasSuffix.f a0 a1 = some r) :
  Calls Tryd.prog 38 #[.string a0, .string a1] w fun e w' => e = .returned (.bool r) ∧ Drawn0 w w' := by
 have H : (if (a0.size : Int) ≥ (a1.size : Int) then (if 0 ≤ (wrap64 ((a0.size : Int) - (a1.size : Int))) then (if (wrap64 ((a0.size : Int) - (a1.size : Int))) ≤ (a0.size : Int) then (some ((a0.extract ((wrap64 ((a0.size : Int) - (a1.size : Int))) : Int).toNat a0.size).toList == a1.toList)) else (none)) else (none)) else (some false)) = some r := h
 clear h
 by_cases c3 : (a0.size : Int) ≥ (a1.size : Int)
 ·rw [if_pos c3] at H
  have c3b0 := decide_eq_true c3
  have c3b1 : decide (a1.size ≤ a0.size) = true := decide_eq_true (Int.ofNat_le.mp c3)
  clear c3
  obtain ⟨ji4, hji4⟩ : ∃ j_ : Int, (wrap64 ((a0.size : Int) - (a1.size : Int))) = j_ := ⟨_, rfl⟩
  replace H : (if 0 ≤ (ji4) then (if (ji4) ≤ (a0.size : Int) then (some ((a0.extract ((ji4) : Int).toNat a0.size).toList == a1.toList)) else (none)) else (none)) = some r := by first | (rw [hji4] at H; exact H) | (simp only [hji4] at H ⊢; exact H)
  have hji4w : (IntKind.i64.wrap ((a0.size : Int) - (a1.size : Int))) = ji4 := (i64_w _).trans hji4
  by_cases c5 : 0 ≤ (ji4)
  ·rw [if_pos c5] at H
   have c5b0 := eq_true c5
   have c5b1 := decide_eq_true c5
   clear c5
   by_cases c6 : (ji4) ≤ (a0.size : Int)
   ·rw [if_pos c6] at H
    have c6b0 := eq_true c6
    have c6b1 := decide_eq_true c6
    clear c6
    obtain rfl := Option.some.inj H
    go_enter Tryd.func38, Tryd.ntmps38
    go_wp2
    go_ret
    exact ⟨by first | rfl | (simp; done) | (simp only [← hji4] <;> (first | rfl | simp)) | (simp [*]; done), by repeat (first | exact Drawn0.refl _ | apply Drawn0.step)⟩
   ·rw [if_neg c6] at H
    exact absurd H (by simp)
  ·rw [if_neg c5] at H
   exact absurd H (by simp)
 ·rw [if_neg c3] at H
  have c3b0 := decide_eq_false c3
  have c3b1 : decide (a1.size ≤ a0.size) = false := decide_eq_false (fun h => c3 (Int.ofNat_le.mpr h))
  clear c3
  obtain rfl := Option.some.inj H
  go_enter Tryd.func38, Tryd.ntmps38
  go_wp2
  go_ret
  exact ⟨by first | rfl | (simp; done) | (simp [*]; done), by repeat (first | exact Drawn0.refl _ | apply Drawn0.step)⟩

/-! ### stringslite_CutSuffix: function 27 -/
def stringslite_CutSuffix.f (a0 : ByteArray) (a1 : ByteArray) : Option (ByteArray × Bool) := (stringslite_HasSuffix.f a0 a1).bind fun t148 => (if t148 = true then (if 0 ≤ (wrap64 ((a0.size : Int) - (a1.size : Int))) then (if (wrap64 ((a0.size : Int) - (a1.size : Int))) ≤ (a0.size : Int) then (some (a0.extract 0 ((wrap64 ((a0.size : Int) - (a1.size : Int))) : Int).toNat, true)) else (none)) else (none)) else (some (a0, false)))
set_option maxHeartbeats 8000000 in
set_option maxRecDepth 100000 in
theorem stringslite_CutSuffix.calls (a0 : ByteArray) (a1 : ByteArray) (r1 : ByteArray) (r2 : Bool) (w : World) (h : stringslite_CutSuffix.f a0 a1 = some (r1, r2)) :
  Calls Tryd.prog 27 #[.string a0, .string a1] w fun e w' => e = .returned (.tuple #[.string r1, .bool r2]) ∧ Drawn0 w w' := by
 have H : ((stringslite_HasSuffix.f a0 a1).bind fun t148 => (if t148 = true then (if 0 ≤ (wrap64 ((a0.size : Int) - (a1.size : Int))) then (if (wrap64 ((a0.size : Int) - (a1.size : Int))) ≤ (a0.size : Int) then (some (a0.extract 0 ((wrap64 ((a0.size : Int) - (a1.size : Int))) : Int).toNat, true)) else (none)) else (none)) else (some (a0, false)))) = some (r1, r2) := h
 clear h
 replace H := Option.bind_eq_some_iff.mp H
 obtain ⟨t148, A30, H⟩ := H
 replace H : (if t148 = true then (if 0 ≤ (wrap64 ((a0.size : Int) - (a1.size : Int))) then (if (wrap64 ((a0.size : Int) - (a1.size : Int))) ≤ (a0.size : Int) then (some (a0.extract 0 ((wrap64 ((a0.size : Int) - (a1.size : Int))) : Int).toNat, true)) else (none)) else (none)) else (some (a0, false))) = some (r1, r2) := H
 have A3 := Aside0.mk A30
 clear A30
 by_cases c4 : t148 = true
 ·subst c4
  have H1 : (if 0 ≤ (wrap64 ((a0.size : Int) - (a1.size : Int))) then (if (wrap64 ((a0.size : Int) - (a1.size : Int))) ≤ (a0.size : Int) then (some (a0.extract 0 ((wrap64 ((a0.size : Int) - (a1.size : Int))) : Int).toNat, true)) else (none)) else (none)) = some (r1, r2) := by rw [if_pos rfl] at H; exact H
  clear H
  have H := H1
  clear H1
  obtain ⟨ji5, hji5⟩ : ∃ j_ : Int, (wrap64 ((a0.size : Int) - (a1.size : Int))) = j_ := ⟨_, rfl⟩
  replace H : (if 0 ≤ (ji5) then (if (ji5) ≤ (a0.size : Int) then (some (a0.extract 0 ((ji5) : Int).toNat, true)) else (none)) else (none)) = some (r1, r2) := by first | (rw [hji5] at H; exact H) | (simp only [hji5] at H ⊢; exact H)
  (try rw [hji5] at A3)
  have hji5w : (IntKind.i64.wrap ((a0.size : Int) - (a1.size : Int))) = ji5 := (i64_w _).trans hji5
  by_cases c6 : 0 ≤ (ji5)
  ·rw [if_pos c6] at H
   have c6b0 := eq_true c6
   have c6b1 := decide_eq_true c6
   clear c6
   by_cases c7 : (ji5) ≤ (a0.size : Int)
   ·rw [if_pos c7] at H
    have c7b0 := eq_true c7
    have c7b1 := decide_eq_true c7
    clear c7
    simp only [Option.some.injEq, Prod.mk.injEq] at H
    obtain ⟨rfl, rfl⟩ := H
    go_enter Tryd.func27, Tryd.ntmps27
    go_wp2_with (first | ((with_reducible refine gf 38 rfl ?_); refine gL (some 8) rfl rfl Tryd.func38 rfl #[.string a0, .string a1] rfl ?_; (with_reducible refine (stringslite_HasSuffix.calls a0 a1 true _ A3.out).mono ?_); rintro e w' ⟨rfl, ⟨nd, rfl⟩⟩; refine ⟨_, rfl, ?_⟩))
    go_ret2
    exact ⟨by first | rfl | (simp; done) | (simp only [← hji5] <;> (first | rfl | simp)) | (simp [*]; done), by repeat (first | exact Drawn0.refl _ | apply Drawn0.step)⟩
   ·rw [if_neg c7] at H
    exact absurd H (by simp)
  ·rw [if_neg c6] at H
   exact absurd H (by simp)
 ·replace c4 := Bool.eq_false_iff.mpr c4
  subst c4
  have H1 : (some (a0, false)) = some (r1, r2) := by rw [if_neg (show ¬ (false = true) by decide)] at H; exact H
  clear H
  have H := H1
  clear H1
  simp only [Option.some.injEq, Prod.mk.injEq] at H
  obtain ⟨rfl, rfl⟩ := H
  go_enter Tryd.func27, Tryd.ntmps27
  go_wp2_with (first | ((with_reducible refine gf 38 rfl ?_); refine gL (some 8) rfl rfl Tryd.func38 rfl #[.string a0, .string a1] rfl ?_; (with_reducible refine (stringslite_HasSuffix.calls a0 a1 false _ A3.out).mono ?_); rintro e w' ⟨rfl, ⟨nd, rfl⟩⟩; refine ⟨_, rfl, ?_⟩))
  go_ret2
  exact ⟨by first | rfl | (simp; done) | (simp [*]; done), by repeat (first | exact Drawn0.refl _ | apply Drawn0.step)⟩

/-! ### strings_CutSuffix: function 19 -/
def strings_CutSuffix.f (a0 : ByteArray) (a1 : ByteArray) : Option (ByteArray × Bool) := (stringslite_CutSuffix.f a0 a1).bind fun bt149 => (some (bt149.1, bt149.2))
set_option maxHeartbeats 8000000 in
set_option maxRecDepth 100000 in
theorem strings_CutSuffix.calls (a0 : ByteArray) (a1 : ByteArray) (r1 : ByteArray) (r2 : Bool) (w : World) (h : strings_CutSuffix.f a0 a1 = some (r1, r2)) :
  Calls Tryd.prog 19 #[.string a0, .string a1] w fun e w' => e = .returned (.tuple #[.string r1, .bool r2]) ∧ Drawn0 w w' := by
 have H : ((stringslite_CutSuffix.f a0 a1).bind fun bt149 => (some (bt149.1, bt149.2))) = some (r1, r2) := h
 clear h
 replace H := Option.bind_eq_some_iff.mp H
 obtain ⟨⟨t149, t150⟩, A30, H⟩ := H
 replace H : (some (t149, t150)) = some (r1, r2) := H
 have A3 := Aside0.mk A30
 clear A30
 simp only [Option.some.injEq, Prod.mk.injEq] at H
 obtain ⟨rfl, rfl⟩ := H
 go_enter Tryd.func19, Tryd.ntmps19
 go_wp2_with (first | ((with_reducible refine gf 27 rfl ?_); refine gL (some 8) rfl rfl Tryd.func27 rfl #[.string a0, .string a1] rfl ?_; (with_reducible refine (stringslite_CutSuffix.calls a0 a1 t149 t150 _ A3.out).mono ?_); rintro e w' ⟨rfl, ⟨nd, rfl⟩⟩; refine ⟨_, rfl, ?_⟩))
 go_ret2
 exact ⟨by first | rfl | (simp; done) | (simp [*]; done), by repeat (first | exact Drawn0.refl _ | apply Drawn0.step)⟩

-- NOT PRINTED: function 49 (utf8_decodeRuneInStringSlow)

-- NOT PRINTED: function 43 (utf8_DecodeRuneInString)

-- NOT PRINTED: function 46 (utf8_RuneCountInString)

-- NOT PRINTED: function 39 (strings_explode)

-- NOT PRINTED: function 58 (bytealg_IndexByteString)

-- NOT PRINTED: function 52 (stringslite_IndexByte)

-- NOT PRINTED: function 53 (bytealg_IndexString)

-- NOT PRINTED: function 54 (bytealg_Cutover)

-- NOT PRINTED: function 59 (bytealg_hashStr_string)

-- NOT PRINTED: function 55 (bytealg_IndexRabinKarp_string)

-- NOT PRINTED: function 48 (stringslite_Index)

-- NOT PRINTED: function 41 (strings_Index)

-- NOT PRINTED: function 47 (bytealg_CountString)

-- NOT PRINTED: function 40 (strings_Count)

-- NOT PRINTED: function 28 (strings_genSplit)

/-! ### strings_Split: function 20 -/
def strings_Split.f (a0 a1 : ByteArray) : Option (List ByteArray) := if a0.size < 4294967281 then (if 1 ≤ a1.size then some (Go.Lib.splitB a1 0 (Go.Lib.countB a0 a1) a0) else none) else none
theorem strings_Split.calls (a0 a1 : ByteArray) (r : List ByteArray) (w : World) (hT0 : TIs w) (h : strings_Split.f a0 a1 = some r) :
  Calls Tryd.prog 20 #[.string a0, .string a1] w fun e w' => ∃ v0_ : Value, e = .returned (v0_) ∧ Kd.R Kd.string 9 w' w.heap.size (fun _ => True) v0_ r ∧ Below w.heap.size w w' := by
 unfold strings_Split.f at h
 split at h
 ·next h0 =>
  split at h
  ·next h1 =>
   obtain rfl := Option.some.inj h
   exact split_calls a0 a1 h0 h1 w hT0
  ·cases h
 ·cases h

-- NOT PRINTED: function 29 (strings_trimLeftByte)

-- NOT PRINTED: function 30 (strings_trimRightByte)

-- NOT PRINTED: function 31 (strings_makeASCIISet)

-- NOT PRINTED: function 42 (strings_asciiSet_contains)

-- NOT PRINTED: function 32 (strings_trimLeftASCII)

-- NOT PRINTED: function 33 (strings_trimRightASCII)

-- NOT PRINTED: function 56 (strings_IndexByte)

-- NOT PRINTED: function 57 (utf8_ValidRune)

-- NOT PRINTED: function 50 (strings_IndexRune)

-- NOT PRINTED: function 44 (strings_ContainsRune)

-- NOT PRINTED: function 34 (strings_trimLeftUnicode)

-- NOT PRINTED: function 51 (utf8_RuneStart)

-- NOT PRINTED: function 45 (utf8_DecodeLastRuneInString)

-- NOT PRINTED: function 35 (strings_trimRightUnicode)

/-! ### strings_Trim: function 21 -/
def strings_Trim.f (a0 a1 : ByteArray) : Option ByteArray := if a0.size < 4294967281 then (if a1.size < 4294967281 then (if a1.data.toList.all (fun b => decide (b.toNat < 128)) = true then some ⟨(Go.Lib.trimS a0.data.toList a1.data.toList).toArray⟩ else none) else none) else none
theorem strings_Trim.calls (a0 a1 : ByteArray) (r : ByteArray) (w : World) (h : strings_Trim.f a0 a1 = some r) :
  Calls Tryd.prog 21 #[.string a0, .string a1] w fun e w' => e = .returned (.string r) ∧ Below w.heap.size w w' := by
 unfold strings_Trim.f at h
 split at h
 ·next h0 =>
  split at h
  ·next h1 =>
   split at h
   ·next h2 =>
    obtain rfl := Option.some.inj h
    exact trim_calls a0 a1 h0 h1 h2 w
   ·cases h
  ·cases h
 ·cases h

end Go.Proofs.YtgcjhpcegmblgaaDoor.PBitmapParses
