-- Written by a program of this session (wip/tools/myprint.py) over the kit's print. Not trusted: Lean checks it.
import Derived.Test.YtgcjhpcegmblgaaDoorPBitmapParsesx0
import Derived.Test.YtgcjhpcegmblgaaDoorPBitmapParsesx1
import Derived.Test.YtgcjhpcegmblgaaDoorPBitmapParsesx3
import Derived.Test.YtgcjhpcegmblgaaDoorPBitmapParsesx4
namespace Go.Proofs.YtgcjhpcegmblgaaDoor.PBitmapParses
open Go.RowKit Go.Proofs.YtgcjhpcegmblgaaDoorW.PrintWords Go.Proofs.YtgcjhpcegmblgaaDoorW.PrintLast Go.Proofs.YtgcjhpcegmblgaaDoorW.PrintMore
attribute [local go_sem] max2_int min2_int max_two min_two max_three min_three max_four min_four   -- for this text's walks alone
set_option linter.unusedVariables false
set_option linter.unusedSimpArgs false

/-! ### incunablelaw05_BitmapParses: function 4 -/
def incunablelaw05_BitmapParses.j0 : Nat → ByteArray → Int → Bool → Int → Int → List Int → Option (Bool)
 | 0, _, _, _, _, _, _ => none
 | k + 1, x0, x4, x30, x186000, x186001, x186002 => if x30 = true then (some false) else (if x4 = 0 then ((bitmap_Format.f k x186000 x186001 x186002).bind fun bt194 => (if bt194.2 = 0 then (if bt194.1.toList = x0.toList then ((incunablelaw05_Sane.f k).bind fun t196 => (some t196)) else (some false)) else (some false))) else ((incunablelaw05_Sane.f k).bind fun t197 => (some t197)))
def incunablelaw05_BitmapParses.f (k : Nat) (a0 : ByteArray) : Option (Bool) := if (a0.size : Int) > 20000 then ((incunablelaw05_Sane.f k).bind fun t178 => (some t178)) else ((bitmap_Parse.f k a0).bind fun bt179 => ((incunableref05_Parse.f k a0).bind fun bt186 => (if bt179.2.2.2 = bt186.2.2.2 then ((incunableref05_Same.f bt179.1 bt179.2.1 bt179.2.2.1 bt186.1 bt186.2.1 bt186.2.2.1).bind fun t193 => (incunablelaw05_BitmapParses.j0 k a0 bt179.2.2.2 (!t193) bt179.1 bt179.2.1 bt179.2.2.1)) else (incunablelaw05_BitmapParses.j0 k a0 bt179.2.2.2 true bt179.1 bt179.2.1 bt179.2.2.1))))
theorem incunablelaw05_BitmapParses.mono_l : ∀ k, (∀ y0 y1 y2 y3 y4 y5, LeO (incunablelaw05_BitmapParses.j0 k y0 y1 y2 y3 y4 y5) (incunablelaw05_BitmapParses.j0 (k + 1) y0 y1 y2 y3 y4 y5))
 | 0 => fun _ _ _ _ _ _ r h => by simp [incunablelaw05_BitmapParses.j0] at h
 | k + 1 => by
  have ih0 := incunablelaw05_BitmapParses.mono_l k
  ·intro y0 y1 y2 y3 y4 y5
   unfold incunablelaw05_BitmapParses.j0
   repeat' first
   | (with_reducible exact ih0 _ _ _ _ _ _)
   | (with_reducible exact bitmap_Format.mono _ _ _ _)
   | (with_reducible exact bitmap_Parse.mono _ _)
   | (with_reducible exact incunablelaw05_Sane.mono _)
   | (with_reducible exact incunableref05_Parse.mono _ _)
   | (with_reducible first | exact LeO.refl _ | exact LeO.none _ | refine LeO.ite ?_ ?_ | refine LeO.bind ?_ (fun _ => ?_))
   | exact ih0 _ _ _ _ _ _
   | exact bitmap_Format.mono _ _ _ _
   | exact bitmap_Parse.mono _ _
   | exact incunablelaw05_Sane.mono _
   | exact incunableref05_Parse.mono _ _
   | exact LeO.none _ | refine LeO.ite ?_ ?_ | refine LeO.bind ?_ (fun _ => ?_)
theorem incunablelaw05_BitmapParses.mono : ∀ a0 k, LeO (incunablelaw05_BitmapParses.f k a0) (incunablelaw05_BitmapParses.f (k + 1) a0) := by
 intro a0 k
 have ih0 := incunablelaw05_BitmapParses.mono_l k
 unfold incunablelaw05_BitmapParses.f
 repeat' first
   | (with_reducible exact ih0 _ _ _ _ _ _)
   | (with_reducible exact bitmap_Format.mono _ _ _ _)
   | (with_reducible exact bitmap_Parse.mono _ _)
   | (with_reducible exact incunablelaw05_Sane.mono _)
   | (with_reducible exact incunableref05_Parse.mono _ _)
   | (with_reducible first | exact LeO.refl _ | exact LeO.none _ | refine LeO.ite ?_ ?_ | refine LeO.bind ?_ (fun _ => ?_))
   | exact ih0 _ _ _ _ _ _
   | exact bitmap_Format.mono _ _ _ _
   | exact bitmap_Parse.mono _ _
   | exact incunablelaw05_Sane.mono _
   | exact incunableref05_Parse.mono _ _
   | exact LeO.none _ | refine LeO.ite ?_ ?_ | refine LeO.bind ?_ (fun _ => ?_)
set_option maxHeartbeats 8000000 in
set_option maxRecDepth 100000 in
theorem incunablelaw05_BitmapParses.calls (k : Nat) (a0 : ByteArray) (r : Bool) (w : World) (hT0 : TIs w) (h : incunablelaw05_BitmapParses.f k a0 = some r) (hr_ : r = true) :
  Calls Tryd.prog 4 #[.string a0] w fun e w' => e = .returned (.bool r) ∧ Below w.heap.size w w' := by
 have HTI := Aside0.mk hT0
 clear hT0
 have HR_ := Aside0.mk hr_
 clear hr_
 have hu24 := Tryd.underlying24
 have HB := Aside0.mk (Below.refl w.heap.size w)
 have H : (if (a0.size : Int) > 20000 then ((incunablelaw05_Sane.f k).bind fun t178 => (some t178)) else ((bitmap_Parse.f k a0).bind fun bt179 => ((incunableref05_Parse.f k a0).bind fun bt186 => (if bt179.2.2.2 = bt186.2.2.2 then ((incunableref05_Same.f bt179.1 bt179.2.1 bt179.2.2.1 bt186.1 bt186.2.1 bt186.2.2.1).bind fun t193 => (incunablelaw05_BitmapParses.j0 k a0 bt179.2.2.2 (!t193) bt179.1 bt179.2.1 bt179.2.2.1)) else (incunablelaw05_BitmapParses.j0 k a0 bt179.2.2.2 true bt179.1 bt179.2.1 bt179.2.2.1))))) = some r := h
 clear h
 by_cases c2 : (a0.size : Int) > 20000
 ·rw [if_pos c2] at H
  have c2b0 := decide_eq_true c2
  have c2b1 : decide (20000 < a0.size) = true := decide_eq_true (by omega)
  clear c2
  replace H := Option.bind_eq_some_iff.mp H
  obtain ⟨t178, A30, H⟩ := H
  replace H : (some t178) = some r := H
  have A3 := Aside0.mk A30
  clear A30
  obtain rfl := Option.some.inj H
  go_enter Tryd.func4, Tryd.ntmps4
  go_wp2_with (first | ((with_reducible refine gf 6 rfl ?_); refine gL (some 11) rfl rfl Tryd.func6 rfl #[] rfl ?_; (with_reducible refine (incunablelaw05_Sane.calls k  t178 _ A3.out).mono ?_); rintro e w4 ⟨rfl, hb⟩; refine ⟨_, rfl, ?_⟩; have n_ := aE (bs hb); clear HB; have HB := n_; clear n_; (try clear hb)))
  go_ret
  exact ⟨re, bl⟩
 ·rw [if_neg c2] at H
  have c2b0 := decide_eq_false c2
  have c2b1 : decide (20000 < a0.size) = false := decide_eq_false (by omega)
  clear c2
  replace H := Option.bind_eq_some_iff.mp H
  obtain ⟨⟨t179, t180, t181, t184⟩, A50, H⟩ := H
  replace H : ((incunableref05_Parse.f k a0).bind fun bt186 => (if t184 = bt186.2.2.2 then ((incunableref05_Same.f t179 t180 t181 bt186.1 bt186.2.1 bt186.2.2.1).bind fun t193 => (incunablelaw05_BitmapParses.j0 k a0 t184 (!t193) t179 t180 t181)) else (incunablelaw05_BitmapParses.j0 k a0 t184 true t179 t180 t181))) = some r := H
  have A5 := Aside0.mk A50
  clear A50
  replace H := Option.bind_eq_some_iff.mp H
  obtain ⟨⟨t186, t187, t188, t191⟩, A60, H⟩ := H
  replace H : (if t184 = t191 then ((incunableref05_Same.f t179 t180 t181 t186 t187 t188).bind fun t193 => (incunablelaw05_BitmapParses.j0 k a0 t184 (!t193) t179 t180 t181)) else (incunablelaw05_BitmapParses.j0 k a0 t184 true t179 t180 t181)) = some r := H
  have A6 := Aside0.mk A60
  clear A60
  have HC7 := Aside0.mk H
  clear H
  go_enter Tryd.func4, Tryd.ntmps4
  go_upto_region 5 with (first | ((with_reducible refine gf 9 rfl ?_); refine gL (some 14) rfl rfl Tryd.func9 rfl #[.string a0] rfl ?_; (with_reducible refine (bitmap_Parse.calls k a0 t179 t180 t181 t184 _ (TIs.on HTI) A5.out).mono ?_); rintro e w8 ⟨v182, rfl, ho0, hb⟩; refine ⟨_, rfl, ?_⟩; have n_ := aC (Kd.R_lower ho0 bz) (aE (bs hb)); clear HB; obtain ⟨HO183, HB⟩ := n_; (try clear hb); (try clear ho0)) | ((with_reducible refine gd 3 rfl ?_); refine bx 3 #[.int .i64 0, .int .i64 0, .slice none 0 0] 24 rfl rfl ?_; intro gb185 hg w9 hbox hb; have n_ := aC (Kd.R_below (rU HO183.out) hb) (aC (bs hb) (aC hbox (aC (gz hg) (aE (gz hg))))); clear HO183 HB; obtain ⟨HO183, HB, BK185, GW185, GE185⟩ := n_; clear hb hbox hg; obtain ⟨hcz10_0, hcz10_1, hcz10_2, hfz10_0, hfz10_1, hfz10_2⟩ := cz3f BK185.out; obtain ⟨Ao11, co11, eo11⟩ := Kd.R_slice HO183.out; subst eo11) | ((with_reducible refine gf 11 rfl ?_); refine gL (some 19) rfl rfl Tryd.func11 rfl #[.string a0] rfl ?_; (with_reducible refine (incunableref05_Parse.calls k a0 t186 t187 t188 t191 _ A6.out).mono ?_); rintro e w12 ⟨v189, rfl, ho0, hb⟩; refine ⟨_, rfl, ?_⟩; have n_ := aC (Kd.R_elder' (rU (Kd.R_mono (Kd.R_far (p := ⟨gb185, 2, none⟩) (Kd.R_far (p := ⟨gb185, 1, none⟩) (Kd.R_far (p := ⟨gb185, 0, none⟩) (Kd.R_types HO183.out BK185.out (by decide)) (fun _ hk => hk.2) (.int .i64 t179)) (fun _ hk => hk.2) (.int .i64 t180)) (fun _ hk => hk.2) (.slice Ao11 t181.length co11)) (fun _ h_ => h_.1))) (Kd.R_base ho0) hb) (aC (Kd.R_lower (Kd.R_new' ho0 (Kd.R_lt (rU (Kd.R_mono (Kd.R_far (p := ⟨gb185, 2, none⟩) (Kd.R_far (p := ⟨gb185, 1, none⟩) (Kd.R_far (p := ⟨gb185, 0, none⟩) (Kd.R_types HO183.out BK185.out (by decide)) (fun _ hk => hk.2) (.int .i64 t179)) (fun _ hk => hk.2) (.int .i64 t180)) (fun _ hk => hk.2) (.slice Ao11 t181.length co11)) (fun _ h_ => h_.1))))) bz) (aC (blk_below (g := gb185) (o := .cells #[.int .i64 t179, .int .i64 t180, .slice Ao11 t181.length co11] 24 (0, 0)) (by (with_reducible repeat (first | refine blk_drewN ?_ _ | refine blk_drew ?_ | refine blk_alloc ?_ _)); refine blk_put (cs := #[.int .i64 t179, .int .i64 t180, .slice none 0 0]) ?_ 2 _ rfl; (with_reducible repeat (first | refine blk_drewN ?_ _ | refine blk_drew ?_ | refine blk_alloc ?_ _)); refine blk_put (cs := #[.int .i64 t179, .int .i64 0, .slice none 0 0]) ?_ 1 _ rfl; (with_reducible repeat (first | refine blk_drewN ?_ _ | refine blk_drew ?_ | refine blk_alloc ?_ _)); refine blk_put (cs := #[.int .i64 0, .int .i64 0, .slice none 0 0]) ?_ 0 _ rfl; (with_reducible repeat (first | refine blk_drewN ?_ _ | refine blk_drew ?_ | refine blk_alloc ?_ _)); exact BK185.out) hb) (aE (bs hb)))); clear HO183 BK185 HB; obtain ⟨HO183, HO190, BK185, HB⟩ := n_; (try clear hb); (try clear ho0)) | ((with_reducible refine gd 5 rfl ?_); refine bx 5 #[.int .i64 0, .int .i64 0, .slice none 0 0] 24 rfl rfl ?_; intro gb192 hg w13 hbox hb; have n_ := aC (Kd.R_below (rU HO183.out) hb) (aC (Kd.R_below (rU HO190.out) hb) (aC (blk_below (bU BK185.out) hb) (aC (bs hb) (aC hbox (aC (gz hg) (aC (gz hg) (aC (gn hg (bU BK185.out)) (aE (gm hg (bU BK185.out)))))))))); clear HO183 HO190 BK185 HB; obtain ⟨HO183, HO190, BK185, HB, BK192, GW192, GE192, NB185_192, NB192_185⟩ := n_; clear hb hbox hg; have hnb14 := NB192_185.out; have hnc14 := NB185_192.out; obtain ⟨hcz15_0, hcz15_1, hcz15_2, hfz15_0, hfz15_1, hfz15_2⟩ := cz3f BK192.out; obtain ⟨Ao16, co16, eo16⟩ := Kd.R_slice HO190.out; subst eo16))
  (try simp only [Act.put, List.setIfInBounds_toArray, List.set_cons_zero, List.set_cons_succ])
  go_cut [30] (fun v30 wc => ∃ (kq : Nat) (x30_6 : Bool), v30 = .bool x30_6 ∧ Aside0 (incunablelaw05_BitmapParses.j0 kq a0 t184 x30_6 t179 t180 t181 = some r) ∧ Aside0 (kq ≤ k) ∧ Aside0 (Kd.R (Kd.int .u8) 5 wc w.heap.size (fun k_ => some k_ ≠ ((.slice Ao16 t188.length co16) : Value).ownBlock) (.slice Ao11 t181.length co11) t181) ∧ Aside0 (Kd.R (Kd.int .u8) 5 wc w.heap.size (fun k_ => some k_ ≠ ((.slice Ao11 t181.length co11) : Value).ownBlock) (.slice Ao16 t188.length co16) t188) ∧ Aside0 (wc.heap[gb185]? = some (.cells #[.int .i64 t179, .int .i64 t180, (.slice Ao11 t181.length co11)] 24 (0, 0))) ∧ Aside0 (wc.heap[gb192]? = some (.cells #[.int .i64 t186, .int .i64 t187, (.slice Ao16 t188.length co16)] 24 (0, 0))) ∧ Aside0 (Below w.heap.size w wc))
  case first =>
   have H := HC7.out
   clear HC7
   by_cases c17 : t184 = t191
   ·rw [if_pos c17] at H
    have c17b0 := beq_iff_eq.mpr c17
    have c17b1 := bne_eq_false_iff_eq.mpr c17
    clear c17
    (first | rw [c17b0] | (simp only [i64_w, i32_w]; rw [c17b0]) | skip)
    replace H := Option.bind_eq_some_iff.mp H
    obtain ⟨t193, A180, H⟩ := H
    replace H : (incunablelaw05_BitmapParses.j0 k a0 t184 (!t193) t179 t180 t181) = some r := H
    have A18 := Aside0.mk A180
    clear A180
    have H' := Aside0.mk H
    clear H
    have hnb19 := NB185_192.out
    have hnc19 := NB192_185.out
    obtain ⟨hcz20_0, hcz20_1, hcz20_2, hfz20_0, hfz20_1, hfz20_2⟩ := cz3f BK185.out
    obtain ⟨hcz21_0, hcz21_1, hcz21_2, hfz21_0, hfz21_1, hfz21_2⟩ := cz3f BK192.out
    go_wp2_with (first | (go_at_call 10; (with_reducible refine (incunableref05_Same.calls t179 t180 _ _ t181 t186 t187 _ _ t188 t193 _ ?side1 ?side2 ?side3 ?side4 A18.out).mono ?_); (case side1 => refine (Kd.R_reads' (e := 5) (base := w.heap.size) (ok := fun k_ => (True ∧ some k_ ≠ (.slice Ao16 t188.length co16 : Value).ownBlock)) (n := t181.length) (c := co11) ?_).2.2; exact (rU (Kd.R_mono (Kd.R_far (p := ⟨gb192, 2, none⟩) (Kd.R_far (p := ⟨gb192, 1, none⟩) (Kd.R_far (p := ⟨gb192, 0, none⟩) (Kd.R_types HO183.out BK192.out (by decide)) (fun _ hk => hk.2) (.int .i64 t186)) (fun _ hk => hk.2) (.int .i64 t187)) (fun _ hk => hk.2) (.slice Ao16 t188.length co16)) (fun _ h_ => h_.1)))); (case side2 => exact (Kd.R_reads' HO183.out).2.1); (case side3 => refine (Kd.R_reads' (e := 5) (base := w.heap.size) (ok := fun k_ => (True ∧ some k_ ≠ (.slice Ao11 t181.length co11 : Value).ownBlock)) (n := t188.length) (c := co16) ?_).2.2; exact (rU (Kd.R_mono (Kd.R_far (p := ⟨gb192, 2, none⟩) (Kd.R_far (p := ⟨gb192, 1, none⟩) (Kd.R_far (p := ⟨gb192, 0, none⟩) (Kd.R_types HO190.out BK192.out (by decide)) (fun _ hk => hk.2) (.int .i64 t186)) (fun _ hk => hk.2) (.int .i64 t187)) (fun _ hk => hk.2) (.slice Ao16 t188.length co16)) (fun _ h_ => h_.1)))); (case side4 => exact (Kd.R_reads' HO190.out).2.1); rintro e w22 ⟨rfl, hb⟩; have n_ := aC (Kd.R_below (rU (Kd.R_mono (Kd.R_far (p := ⟨gb192, 2, none⟩) (Kd.R_far (p := ⟨gb192, 1, none⟩) (Kd.R_far (p := ⟨gb192, 0, none⟩) (Kd.R_types HO183.out BK192.out (by decide)) (fun _ hk => hk.2) (.int .i64 t186)) (fun _ hk => hk.2) (.int .i64 t187)) (fun _ hk => hk.2) (.slice Ao16 t188.length co16)) (fun _ h_ => h_.1))) hb) (aC (Kd.R_below (rU (Kd.R_mono (Kd.R_far (p := ⟨gb192, 2, none⟩) (Kd.R_far (p := ⟨gb192, 1, none⟩) (Kd.R_far (p := ⟨gb192, 0, none⟩) (Kd.R_types HO190.out BK192.out (by decide)) (fun _ hk => hk.2) (.int .i64 t186)) (fun _ hk => hk.2) (.int .i64 t187)) (fun _ hk => hk.2) (.slice Ao16 t188.length co16)) (fun _ h_ => h_.1))) hb) (aC (blk_below (g := gb185) (o := .cells #[.int .i64 t179, .int .i64 t180, .slice Ao11 t181.length co11] 24 (0, 0)) (by (with_reducible repeat (first | refine blk_drewN ?_ _ | refine blk_drew ?_ | refine blk_alloc ?_ _)); refine blk_far ?_ NB185_192.out _; (with_reducible repeat (first | refine blk_drewN ?_ _ | refine blk_drew ?_ | refine blk_alloc ?_ _)); refine blk_far ?_ NB185_192.out _; (with_reducible repeat (first | refine blk_drewN ?_ _ | refine blk_drew ?_ | refine blk_alloc ?_ _)); refine blk_far ?_ NB185_192.out _; (with_reducible repeat (first | refine blk_drewN ?_ _ | refine blk_drew ?_ | refine blk_alloc ?_ _)); exact BK185.out) hb) (aC (blk_below (g := gb192) (o := .cells #[.int .i64 t186, .int .i64 t187, .slice Ao16 t188.length co16] 24 (0, 0)) (by (with_reducible repeat (first | refine blk_drewN ?_ _ | refine blk_drew ?_ | refine blk_alloc ?_ _)); refine blk_put (cs := #[.int .i64 t186, .int .i64 t187, .slice none 0 0]) ?_ 2 _ rfl; (with_reducible repeat (first | refine blk_drewN ?_ _ | refine blk_drew ?_ | refine blk_alloc ?_ _)); refine blk_put (cs := #[.int .i64 t186, .int .i64 0, .slice none 0 0]) ?_ 1 _ rfl; (with_reducible repeat (first | refine blk_drewN ?_ _ | refine blk_drew ?_ | refine blk_alloc ?_ _)); refine blk_put (cs := #[.int .i64 0, .int .i64 0, .slice none 0 0]) ?_ 0 _ rfl; (with_reducible repeat (first | refine blk_drewN ?_ _ | refine blk_drew ?_ | refine blk_alloc ?_ _)); exact BK192.out) hb) (aE (bs hb))))); clear HO183 HO190 BK185 BK192 HB; obtain ⟨HO183, HO190, BK185, BK192, HB⟩ := n_; (try clear hb)))
    go_meet
    case rel => exact ⟨_, (!t193), rq, H', ⟨by first | omega | exact Nat.le_refl _⟩, ⟨rU (Kd.R_mono HO183.out (fun _ hk => hk.2))⟩, ⟨rU (Kd.R_mono HO190.out (fun _ hk => hk.2))⟩, ⟨bU BK185.out⟩, ⟨bU BK192.out⟩, ⟨bl⟩⟩
   ·rw [if_neg c17] at H
    have c17b0 := beq_eq_false_iff_ne.mpr c17
    have c17b1 := bne_iff_ne.mpr c17
    (first | rw [c17b0] | (simp only [i64_w, i32_w]; rw [c17b0]) | skip)
    have H' := Aside0.mk H
    clear H
    go_wp2
    go_meet
    case rel => exact ⟨_, (true), rq, H', ⟨by first | omega | exact Nat.le_refl _⟩, ⟨rU (Kd.R_mono (Kd.R_far (p := ⟨gb192, 2, none⟩) (Kd.R_far (p := ⟨gb192, 1, none⟩) (Kd.R_far (p := ⟨gb192, 0, none⟩) (Kd.R_types HO183.out BK192.out (by decide)) (fun _ hk => hk.2) (.int .i64 t186)) (fun _ hk => hk.2) (.int .i64 t187)) (fun _ hk => hk.2) (.slice Ao16 t188.length co16)) (fun _ hk => hk.1.2))⟩, ⟨rU (Kd.R_mono (Kd.R_far (p := ⟨gb192, 2, none⟩) (Kd.R_far (p := ⟨gb192, 1, none⟩) (Kd.R_far (p := ⟨gb192, 0, none⟩) (Kd.R_types HO190.out BK192.out (by decide)) (fun _ hk => hk.2) (.int .i64 t186)) (fun _ hk => hk.2) (.int .i64 t187)) (fun _ hk => hk.2) (.slice Ao16 t188.length co16)) (fun _ hk => hk.1.2))⟩, ⟨by (with_reducible repeat (first | refine blk_drewN ?_ _ | refine blk_drew ?_ | refine blk_alloc ?_ _)); refine blk_far ?_ NB185_192.out _; (with_reducible repeat (first | refine blk_drewN ?_ _ | refine blk_drew ?_ | refine blk_alloc ?_ _)); refine blk_far ?_ NB185_192.out _; (with_reducible repeat (first | refine blk_drewN ?_ _ | refine blk_drew ?_ | refine blk_alloc ?_ _)); refine blk_far ?_ NB185_192.out _; (with_reducible repeat (first | refine blk_drewN ?_ _ | refine blk_drew ?_ | refine blk_alloc ?_ _)); exact BK185.out⟩, ⟨by (with_reducible repeat (first | refine blk_drewN ?_ _ | refine blk_drew ?_ | refine blk_alloc ?_ _)); refine blk_put (cs := #[.int .i64 t186, .int .i64 t187, .slice none 0 0]) ?_ 2 _ rfl; (with_reducible repeat (first | refine blk_drewN ?_ _ | refine blk_drew ?_ | refine blk_alloc ?_ _)); refine blk_put (cs := #[.int .i64 t186, .int .i64 0, .slice none 0 0]) ?_ 1 _ rfl; (with_reducible repeat (first | refine blk_drewN ?_ _ | refine blk_drew ?_ | refine blk_alloc ?_ _)); refine blk_put (cs := #[.int .i64 0, .int .i64 0, .slice none 0 0]) ?_ 0 _ rfl; (with_reducible repeat (first | refine blk_drewN ?_ _ | refine blk_drew ?_ | refine blk_alloc ?_ _)); exact BK192.out⟩, ⟨bl⟩⟩
  case rest =>
   clear HC7
   obtain ⟨kq, x30_6, rfl, HA, HJ6, HO_186002, HO_193002, BK185, BK192, HB⟩ := hcut
   cases kq with
   | zero => exact absurd HA.out (by simp [incunablelaw05_BitmapParses.j0])
   | succ kj6 =>
    have H := HA.out
    clear HA
    simp only [incunablelaw05_BitmapParses.j0] at H
    by_cases c23 : x30_6 = true
    ·subst c23
     have H1 : (some false) = some r := by rw [if_pos rfl] at H; exact H
     clear H
     have H := H1
     clear H1
     exact absurd ((Option.some.inj H).trans HR_.out) (by decide)
    ·replace c23 := Bool.eq_false_iff.mpr c23
     subst c23
     have H1 : (if t184 = 0 then ((bitmap_Format.f kj6 t179 t180 t181).bind fun bt194 => (if bt194.2 = 0 then (if bt194.1.toList = a0.toList then ((incunablelaw05_Sane.f kj6).bind fun t196 => (some t196)) else (some false)) else (some false))) else ((incunablelaw05_Sane.f kj6).bind fun t197 => (some t197))) = some r := by rw [if_neg (show ¬ (false = true) by decide)] at H; exact H
     clear H
     have H := H1
     clear H1
     by_cases c24 : t184 = 0
     ·rw [if_pos c24] at H
      have c24b0 := beq_iff_eq.mpr c24
      have c24b1 := bne_eq_false_iff_eq.mpr c24
      clear c24
      replace H := Option.bind_eq_some_iff.mp H
      obtain ⟨⟨t194, t195⟩, A250, H⟩ := H
      replace H : (if t195 = 0 then (if t194.toList = a0.toList then ((incunablelaw05_Sane.f kj6).bind fun t196 => (some t196)) else (some false)) else (some false)) = some r := H
      have A25 := Aside0.mk A250
      clear A250
      by_cases c26 : t195 = 0
      ·rw [if_pos c26] at H
       have c26b0 := beq_iff_eq.mpr c26
       have c26b1 := bne_eq_false_iff_eq.mpr c26
       clear c26
       by_cases c27 : t194.toList = a0.toList
       ·rw [if_pos c27] at H
        have c27b0 := beq_iff_eq.mpr c27
        have c27b1 := bne_eq_false_iff_eq.mpr c27
        clear c27
        replace H := Option.bind_eq_some_iff.mp H
        obtain ⟨t196, A280, H⟩ := H
        replace H : (some t196) = some r := H
        have A28 := Aside0.mk A280
        clear A280
        obtain rfl := Option.some.inj H
        have hnb29 := NB185_192.out
        have hnc29 := NB192_185.out
        obtain ⟨hcz30_0, hcz30_1, hcz30_2, hfz30_0, hfz30_1, hfz30_2⟩ := cz3f BK185.out
        go_wp2_with (first | ((with_reducible refine gf 7 rfl ?_); refine gL (some 36) rfl rfl Tryd.func7 rfl #[.agg #[.int .i64 t179, .int .i64 t180, .slice Ao11 t181.length co11]] rfl ?_; (with_reducible refine (bitmap_Format.calls kj6 t179 t180 _ _ t181 t194 t195 _ ?side1 ?side2 A25.out).mono ?_); (case side1 => exact cU (Kd.R_reads' HO_186002.out).2.2); (case side2 => exact (Kd.R_reads' HO_186002.out).2.1); rintro e w31 ⟨rfl, hb⟩; refine ⟨_, rfl, ?_⟩; have n_ := aC (Kd.R_below (rU HO_186002.out) hb) (aC (Kd.R_below (rU HO_193002.out) hb) (aC (blk_below (bU BK185.out) hb) (aC (blk_below (bU BK192.out) hb) (aE (bs hb))))); clear HO_186002 HO_193002 BK185 BK192 HB; obtain ⟨HO_186002, HO_193002, BK185, BK192, HB⟩ := n_; (try clear hb)) | (go_at_call 6; (with_reducible refine (incunablelaw05_Sane.calls kj6  t196 _ A28.out).mono ?_); rintro e w32 ⟨rfl, hb⟩; have n_ := aC (Kd.R_below (rU HO_186002.out) hb) (aC (Kd.R_below (rU HO_193002.out) hb) (aC (blk_below (bU BK185.out) hb) (aC (blk_below (bU BK192.out) hb) (aE (bs hb))))); clear HO_186002 HO_193002 BK185 BK192 HB; obtain ⟨HO_186002, HO_193002, BK185, BK192, HB⟩ := n_; (try clear hb)))
        go_ret
        exact ⟨re, bl⟩
       ·rw [if_neg c27] at H
        have c27b0 := beq_eq_false_iff_ne.mpr c27
        have c27b1 := bne_iff_ne.mpr c27
        exact absurd ((Option.some.inj H).trans HR_.out) (by decide)
      ·rw [if_neg c26] at H
       have c26b0 := beq_eq_false_iff_ne.mpr c26
       have c26b1 := bne_iff_ne.mpr c26
       exact absurd ((Option.some.inj H).trans HR_.out) (by decide)
     ·rw [if_neg c24] at H
      have c24b0 := beq_eq_false_iff_ne.mpr c24
      have c24b1 := bne_iff_ne.mpr c24
      replace H := Option.bind_eq_some_iff.mp H
      obtain ⟨t197, A330, H⟩ := H
      replace H : (some t197) = some r := H
      have A33 := Aside0.mk A330
      clear A330
      obtain rfl := Option.some.inj H
      go_wp2_with (first | ((with_reducible refine gf 6 rfl ?_); refine gL (some 33) rfl rfl Tryd.func6 rfl #[] rfl ?_; (with_reducible refine (incunablelaw05_Sane.calls kj6  t197 _ A33.out).mono ?_); rintro e w34 ⟨rfl, hb⟩; refine ⟨_, rfl, ?_⟩; have n_ := aC (Kd.R_below (rU HO_186002.out) hb) (aC (Kd.R_below (rU HO_193002.out) hb) (aC (blk_below (bU BK185.out) hb) (aC (blk_below (bU BK192.out) hb) (aE (bs hb))))); clear HO_186002 HO_193002 BK185 BK192 HB; obtain ⟨HO_186002, HO_193002, BK185, BK192, HB⟩ := n_; (try clear hb)))
      go_ret
      exact ⟨re, bl⟩

/-- THE ONE PURE STATEMENT of incunablelaw05_BitmapParses: yours. -/
def incunablelaw05_BitmapParses.Pure : Prop := ∀ (a0 : ByteArray), (a0.size ≤ 140737488351232) → ∃ k, incunablelaw05_BitmapParses.f k a0 = some true
theorem incunablelaw05_BitmapParses.walk (P : incunablelaw05_BitmapParses.Pure) (a0 : ByteArray) (w : World) (hT0 : TIs w)  (g0 : a0.size ≤ 140737488351232) :
  Calls Tryd.prog 4 #[.string a0] w fun e w' => e = .returned (.bool true) ∧ Below w.heap.size w w' := by
 obtain ⟨k, h⟩ := P a0 g0
 refine (incunablelaw05_BitmapParses.calls k a0 true w hT0 h rfl).mono ?_
 rintro e w' ⟨rfl, hd⟩
 exact ⟨rfl, hd⟩

end Go.Proofs.YtgcjhpcegmblgaaDoor.PBitmapParses
