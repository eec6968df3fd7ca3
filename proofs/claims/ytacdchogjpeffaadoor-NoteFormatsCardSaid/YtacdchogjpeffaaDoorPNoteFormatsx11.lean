-- printed (wip/tools/myprint.py)
import Derived.Test.YtacdchogjpeffaaDoorPNoteFormatsx0
import Derived.Test.YtacdchogjpeffaaDoorPNoteFormatsx1
import Derived.Test.YtacdchogjpeffaaDoorPNoteFormatsx2
import Derived.Test.YtacdchogjpeffaaDoorPNoteFormatsx5
import Derived.Test.YtacdchogjpeffaaDoorPNoteFormatsx9
import Derived.Test.YtacdchogjpeffaaDoorPNoteFormatsx10
namespace Go.Proofs.YtacdchogjpeffaaDoor.PNoteFormats
open Go.RowKit Go.Proofs.YtacdchogjpeffaaDoorW.PrintWords Go.Proofs.YtacdchogjpeffaaDoorW.PrintLast Go.Proofs.YtacdchogjpeffaaDoorW.PrintMore
attribute [local go_sem] max2_int min2_int max_two min_two max_three min_three max_four min_four
set_option linter.unusedVariables false
set_option linter.unusedSimpArgs false
mutual
def incunablelaw25_NoteFormats.j0 : Nat → ByteArray → Int → Bool → Int → ByteArray → Int → List (S33) → Option (Bool)
 | 0, _, _, _, _, _, _, _ => none
 | k + 1, x3, x4, x35, x175000, x175001, x175002, x175003 => if x35 = true then (some false) else (if x4 = 0 then (incunablelaw25_NoteFormats.j1 k x3 (decide ((x3.size : Int) > 20000)) x175000 x175001 x175002 x175003) else (incunablelaw25_NoteFormats.j1 k x3 true x175000 x175001 x175002 x175003))
def incunablelaw25_NoteFormats.j1 : Nat → ByteArray → Bool → Int → ByteArray → Int → List (S33) → Option (Bool)
 | 0, _, _, _, _, _, _ => none
 | k + 1, x3, x42, x175000, x175001, x175002, x175003 => if x42 = true then ((incunablelaw25_Sane.f k).bind fun t183 => (some t183)) else ((note_Parse.f k x3).bind fun bt184 => (if bt184.2.2.2.2 = 0 then ((incunableref25_SameExpr.f k bt184.1 bt184.2.1 bt184.2.2.1 bt184.2.2.2.1 x175000 x175001 x175002 x175003).bind fun t192 => (if t192 = true then ((incunablelaw25_Sane.f k).bind fun t193 => (some t193)) else (some false))) else (some false)))
end
def incunablelaw25_NoteFormats.f (k : Nat) (a0_0 : Int) (a0_1 : ByteArray) (a0_2 : Int) (l0_3 : List (S33)) : Option (Bool) := (incunablelaw25_Deep.f k a0_0 a0_1 a0_2 l0_3).bind fun t175 => (if t175 = true then ((incunablelaw25_Sane.f k).bind fun t176 => (some t176)) else ((note_Format.f k a0_0 a0_1 a0_2 l0_3).bind fun bt177 => ((incunableref25_Format.f k a0_0 a0_1 a0_2 l0_3).bind fun bt179 => (if bt177.2 = bt179.2 then (if bt177.1.toList = bt179.1.toList then ((note_Valid.f k a0_0 a0_1 a0_2 l0_3).bind fun t181 => ((incunableref25_Valid.f k a0_0 a0_1 a0_2 l0_3).bind fun t182 => (incunablelaw25_NoteFormats.j0 k bt177.1 bt177.2 (t181 != t182) a0_0 a0_1 a0_2 l0_3))) else (incunablelaw25_NoteFormats.j0 k bt177.1 bt177.2 true a0_0 a0_1 a0_2 l0_3)) else (incunablelaw25_NoteFormats.j0 k bt177.1 bt177.2 true a0_0 a0_1 a0_2 l0_3)))))
theorem incunablelaw25_NoteFormats.mono_l : ∀ k, (∀ y0 y1 y2 y3 y4 y5 y6, LeO (incunablelaw25_NoteFormats.j0 k y0 y1 y2 y3 y4 y5 y6) (incunablelaw25_NoteFormats.j0 (k + 1) y0 y1 y2 y3 y4 y5 y6)) ∧ (∀ y0 y1 y2 y3 y4 y5, LeO (incunablelaw25_NoteFormats.j1 k y0 y1 y2 y3 y4 y5) (incunablelaw25_NoteFormats.j1 (k + 1) y0 y1 y2 y3 y4 y5))
 | 0 => ⟨fun _ _ _ _ _ _ _ r h => by simp [incunablelaw25_NoteFormats.j0] at h, fun _ _ _ _ _ _ r h => by simp [incunablelaw25_NoteFormats.j1] at h⟩
 | k + 1 => by
  obtain ⟨ih0, ih1⟩ := incunablelaw25_NoteFormats.mono_l k
  refine ⟨?_, ?_⟩
  ·intro y0 y1 y2 y3 y4 y5 y6
   unfold incunablelaw25_NoteFormats.j0
   repeat' first
   | (with_reducible exact ih0 _ _ _ _ _ _ _)
   | (with_reducible exact ih1 _ _ _ _ _ _)
   | (with_reducible exact incunablelaw25_Deep.mono _ _ _ _ _)
   | (with_reducible exact incunablelaw25_Sane.mono _)
   | (with_reducible exact incunableref25_Format.mono _ _ _ _ _)
   | (with_reducible exact incunableref25_SameExpr.mono _ _ _ _ _ _ _ _ _)
   | (with_reducible exact incunableref25_Valid.mono _ _ _ _ _)
   | (with_reducible exact note_Format.mono _ _ _ _ _)
   | (with_reducible exact note_Parse.mono _ _)
   | (with_reducible exact note_Valid.mono _ _ _ _ _)
   | (with_reducible first | exact LeO.refl _ | exact LeO.none _ | refine LeO.ite ?_ ?_ | refine LeO.bind ?_ (fun _ => ?_))
   | exact ih0 _ _ _ _ _ _ _
   | exact ih1 _ _ _ _ _ _
   | exact incunablelaw25_Deep.mono _ _ _ _ _
   | exact incunablelaw25_Sane.mono _
   | exact incunableref25_Format.mono _ _ _ _ _
   | exact incunableref25_SameExpr.mono _ _ _ _ _ _ _ _ _
   | exact incunableref25_Valid.mono _ _ _ _ _
   | exact note_Format.mono _ _ _ _ _
   | exact note_Parse.mono _ _
   | exact note_Valid.mono _ _ _ _ _
  ·intro y0 y1 y2 y3 y4 y5
   unfold incunablelaw25_NoteFormats.j1
   repeat' first
   | (with_reducible exact ih0 _ _ _ _ _ _ _)
   | (with_reducible exact ih1 _ _ _ _ _ _)
   | (with_reducible exact incunablelaw25_Deep.mono _ _ _ _ _)
   | (with_reducible exact incunablelaw25_Sane.mono _)
   | (with_reducible exact incunableref25_Format.mono _ _ _ _ _)
   | (with_reducible exact incunableref25_SameExpr.mono _ _ _ _ _ _ _ _ _)
   | (with_reducible exact incunableref25_Valid.mono _ _ _ _ _)
   | (with_reducible exact note_Format.mono _ _ _ _ _)
   | (with_reducible exact note_Parse.mono _ _)
   | (with_reducible exact note_Valid.mono _ _ _ _ _)
   | (with_reducible first | exact LeO.refl _ | exact LeO.none _ | refine LeO.ite ?_ ?_ | refine LeO.bind ?_ (fun _ => ?_))
   | exact ih0 _ _ _ _ _ _ _
   | exact ih1 _ _ _ _ _ _
   | exact incunablelaw25_Deep.mono _ _ _ _ _
   | exact incunablelaw25_Sane.mono _
   | exact incunableref25_Format.mono _ _ _ _ _
   | exact incunableref25_SameExpr.mono _ _ _ _ _ _ _ _ _
   | exact incunableref25_Valid.mono _ _ _ _ _
   | exact note_Format.mono _ _ _ _ _
   | exact note_Parse.mono _ _
   | exact note_Valid.mono _ _ _ _ _
theorem incunablelaw25_NoteFormats.mono : ∀ a0 a1 a2 a3 k, LeO (incunablelaw25_NoteFormats.f k a0 a1 a2 a3) (incunablelaw25_NoteFormats.f (k + 1) a0 a1 a2 a3) := by
 intro a0 a1 a2 a3 k
 obtain ⟨ih0, ih1⟩ := incunablelaw25_NoteFormats.mono_l k
 unfold incunablelaw25_NoteFormats.f
 repeat' first
   | (with_reducible exact ih0 _ _ _ _ _ _ _)
   | (with_reducible exact ih1 _ _ _ _ _ _)
   | (with_reducible exact incunablelaw25_Deep.mono _ _ _ _ _)
   | (with_reducible exact incunablelaw25_Sane.mono _)
   | (with_reducible exact incunableref25_Format.mono _ _ _ _ _)
   | (with_reducible exact incunableref25_SameExpr.mono _ _ _ _ _ _ _ _ _)
   | (with_reducible exact incunableref25_Valid.mono _ _ _ _ _)
   | (with_reducible exact note_Format.mono _ _ _ _ _)
   | (with_reducible exact note_Parse.mono _ _)
   | (with_reducible exact note_Valid.mono _ _ _ _ _)
   | (with_reducible first | exact LeO.refl _ | exact LeO.none _ | refine LeO.ite ?_ ?_ | refine LeO.bind ?_ (fun _ => ?_))
   | exact ih0 _ _ _ _ _ _ _
   | exact ih1 _ _ _ _ _ _
   | exact incunablelaw25_Deep.mono _ _ _ _ _
   | exact incunablelaw25_Sane.mono _
   | exact incunableref25_Format.mono _ _ _ _ _
   | exact incunableref25_SameExpr.mono _ _ _ _ _ _ _ _ _
   | exact incunableref25_Valid.mono _ _ _ _ _
   | exact note_Format.mono _ _ _ _ _
   | exact note_Parse.mono _ _
   | exact note_Valid.mono _ _ _ _ _
def incunablelaw25_NoteFormats.T5 : Bool × List (List Nat × List Nat) := (true, [([], []), ([], []), ([0, 1], [0, 1]), ([2], [2]), ([3], [3]), ([3], [3]), ([4, 5, 3], [3, 4, 5]), ([3, 6], [3, 6]), ([7, 3], [7]), ([8], [8]), ([9, 8, 8], [8, 9]), ([8], [8]), ([11, 10, 8], [8, 11]), ([10, 12, 8], [8, 10, 12]), ([8, 13], [8, 13])])
def incunablelaw25_NoteFormats.B5 : List Nat := [0, 0, 3, 7, 15, 15, 63, 127, 255, 511, 1023, 511, 4095, 8191, 16383]
theorem incunablelaw25_NoteFormats.tab5 : rtab .any (opsOf Tryd.f8 5) = incunablelaw25_NoteFormats.T5 := by kernel_rfl
theorem incunablelaw25_NoteFormats.bits5 : waitsOk incunablelaw25_NoteFormats.T5.2 incunablelaw25_NoteFormats.B5 = true := by kernel_rfl
set_option maxHeartbeats 8000000 in
set_option maxRecDepth 100000 in
theorem incunablelaw25_NoteFormats.calls (k : Nat) (a0_0 : Int) (a0_1 : ByteArray) (a0_2 : Int) (A0_3 : Option Addr) (c0_3 : Nat) (l0_3 : List (S33)) (r : Bool) (w : World) (hT0 : TIs w) (hr0_3 : Kd.C k33 w A0_3 l0_3.length l0_3) (hc0_3 : l0_3.length ≤ c0_3) (h : incunablelaw25_NoteFormats.f k a0_0 a0_1 a0_2 l0_3 = some r) (hr_ : r = true) :
  Calls Tryd.prog 8 #[.agg #[.int .i64 a0_0, .string a0_1, .int .i64 a0_2, .slice A0_3 l0_3.length c0_3]] w fun e w' => e = .returned (.bool r) ∧ Below w.heap.size w w' := by
 have HTI := Aside0.mk hT0
 clear hT0
 have HR_ := Aside0.mk hr_
 clear hr_
 have hu33 := Tryd.underlying33
 have HR0_3 := Aside0.mk hr0_3
 have HC0_3 := Aside0.mk hc0_3
 clear hr0_3 hc0_3
 have HB := Aside0.mk (Below.refl w.heap.size w)
 have H := h
 unfold incunablelaw25_NoteFormats.f at H
 clear h
 obtain ⟨t175, A2, H⟩ := oB H
 try dsimp only at H
 by_cases c3 : t175 = true
 ·subst c3
  rw [if_pos rfl] at H
  obtain ⟨t176, A4, H⟩ := oB H
  try dsimp only at H
  obtain rfl := Option.some.inj H
  go_enter Tryd.func8, Tryd.ntmps8
  go_wp2_with (first | ((with_reducible refine gd 1 rfl ?_); (try (refine gate_guard (by rfl) ?_; dsimp only)); refine bx 1 #[.int .i64 a0_0, .string a0_1, .int .i64 a0_2, .slice A0_3 l0_3.length c0_3] 33 rfl rfl ?_; intro gb174 hg w5 hbox hb; have n_ := aC (bs hb) (aC hbox (aC (gz hg) (aE (gz hg)))); clear HB; obtain ⟨HB, BK174, GW174, GE174⟩ := n_; clear hb hbox hg; obtain ⟨hcz6_0, hcz6_1, hcz6_2, hcz6_3, hfz6_0, hfz6_1, hfz6_2, hfz6_3⟩ := cz4f BK174.out) | (refine gF 16 9 Tryd.func16 #[.agg #[.int .i64 a0_0, .string a0_1, .int .i64 a0_2, .slice A0_3 l0_3.length c0_3]] rfl rfl ?_; (with_reducible refine (incunablelaw25_Deep.calls k a0_0 a0_1 a0_2 _ _ l0_3 true _ ?side1 ?side2 A2.out).mono ?_); (case side1 => exact cU (Kd.C_below HR0_3.out HB.out)); (case side2 => exact HC0_3.out); rintro e w7 ⟨rfl, hb⟩; refine ⟨_, rfl, ?_⟩; have n_ := aC (blk_below (bU BK174.out) hb) (aE (bs hb)); clear BK174 HB; obtain ⟨BK174, HB⟩ := n_) | (refine gF 11 10 Tryd.func11 #[] rfl rfl ?_; (with_reducible refine (incunablelaw25_Sane.calls k  t176 _ (TIs.on HTI) A4.out).mono ?_); rintro e w8 ⟨rfl, hb⟩; refine ⟨_, rfl, ?_⟩; have n_ := aC (blk_below (bU BK174.out) hb) (aE (bs hb)); clear BK174 HB; obtain ⟨BK174, HB⟩ := n_))
  go_ret
  exact ⟨re, bl⟩
 ·replace c3 := Bool.eq_false_iff.mpr c3
  subst c3
  rw [if_neg Bool.false_ne_true] at H
  obtain ⟨⟨t177, t178⟩, A9, H⟩ := oB H
  try dsimp only at H
  obtain ⟨⟨t179, t180⟩, A10, H⟩ := oB H
  try dsimp only at H
  have HC11 := Aside0.mk H
  clear H
  go_enter Tryd.func8, Tryd.ntmps8
  go_upto_region 5 with (first | ((with_reducible refine gd 1 rfl ?_); (try (refine gate_guard (by rfl) ?_; dsimp only)); refine bx 1 #[.int .i64 a0_0, .string a0_1, .int .i64 a0_2, .slice A0_3 l0_3.length c0_3] 33 rfl rfl ?_; intro gb174 hg w12 hbox hb; have n_ := aC (bs hb) (aC hbox (aC (gz hg) (aE (gz hg)))); clear HB; obtain ⟨HB, BK174, GW174, GE174⟩ := n_; clear hb hbox hg; obtain ⟨hcz13_0, hcz13_1, hcz13_2, hcz13_3, hfz13_0, hfz13_1, hfz13_2, hfz13_3⟩ := cz4f BK174.out) | (refine gF 16 9 Tryd.func16 #[.agg #[.int .i64 a0_0, .string a0_1, .int .i64 a0_2, .slice A0_3 l0_3.length c0_3]] rfl rfl ?_; (with_reducible refine (incunablelaw25_Deep.calls k a0_0 a0_1 a0_2 _ _ l0_3 false _ ?side1 ?side2 A2.out).mono ?_); (case side1 => exact cU (Kd.C_below HR0_3.out HB.out)); (case side2 => exact HC0_3.out); rintro e w14 ⟨rfl, hb⟩; refine ⟨_, rfl, ?_⟩; have n_ := aC (blk_below (bU BK174.out) hb) (aE (bs hb)); clear BK174 HB; obtain ⟨BK174, HB⟩ := n_; obtain ⟨hcz15_0, hcz15_1, hcz15_2, hcz15_3, hfz15_0, hfz15_1, hfz15_2, hfz15_3⟩ := cz4f BK174.out) | (refine gF 31 13 Tryd.func31 #[.agg #[.int .i64 a0_0, .string a0_1, .int .i64 a0_2, .slice A0_3 l0_3.length c0_3]] rfl rfl ?_; (with_reducible refine (note_Format.calls k a0_0 a0_1 a0_2 _ _ l0_3 t177 t178 _ (TIs.on HTI) ?side1 ?side2 A9.out).mono ?_); (case side1 => exact cU (Kd.C_below HR0_3.out HB.out)); (case side2 => exact HC0_3.out); rintro e w16 ⟨rfl, hb⟩; refine ⟨_, rfl, ?_⟩; have n_ := aC (blk_below (bU BK174.out) hb) (aE (bs hb)); clear BK174 HB; obtain ⟨BK174, HB⟩ := n_; obtain ⟨hcz17_0, hcz17_1, hcz17_2, hcz17_3, hfz17_0, hfz17_1, hfz17_2, hfz17_3⟩ := cz4f BK174.out) | (refine gF 32 18 Tryd.func32 #[.agg #[.int .i64 a0_0, .string a0_1, .int .i64 a0_2, .slice A0_3 l0_3.length c0_3]] rfl rfl ?_; (with_reducible refine (incunableref25_Format.calls k a0_0 a0_1 a0_2 _ _ l0_3 t179 t180 _ (TIs.on HTI) ?side1 ?side2 A10.out).mono ?_); (case side1 => exact cU (Kd.C_below HR0_3.out HB.out)); (case side2 => exact HC0_3.out); rintro e w18 ⟨rfl, hb⟩; refine ⟨_, rfl, ?_⟩; have n_ := aC (blk_below (bU BK174.out) hb) (aE (bs hb)); clear BK174 HB; obtain ⟨BK174, HB⟩ := n_))
  (try simp only [Act.put, List.setIfInBounds_toArray, List.set_cons_zero, List.set_cons_succ])
  go_cut [35] (fun v35 wc => ∃ (kq : Nat) (x35_10 : Bool), v35 = .bool x35_10 ∧ Aside0 (incunablelaw25_NoteFormats.j0 kq t177 t178 x35_10 a0_0 a0_1 a0_2 l0_3 = some r) ∧ Aside0 (kq ≤ k) ∧ Aside0 (wc.heap[gb174]? = some (.cells #[.int .i64 a0_0, .string a0_1, .int .i64 a0_2, (.slice A0_3 l0_3.length c0_3)] 33 (0, 0))) ∧ Aside0 (Below w.heap.size w wc))
  case first =>
   have H := HC11.out
   clear HC11
   rcases iE H with H1 | H1 <;> clear H <;> obtain ⟨H, c19b0, c19b1, c19⟩ := H1
   ·(first | rw [c19b0] | (simp only [i64_w, i32_w]; rw [c19b0]) | skip)
    rcases iE H with H1 | H1 <;> clear H <;> obtain ⟨H, c20b0, c20b1, c20⟩ := H1
    ·obtain ⟨t181, A21, H⟩ := oB H
     try dsimp only at H
     obtain ⟨t182, A22, H⟩ := oB H
     try dsimp only at H
     have H' := Aside0.mk H
     clear H
     try go_wp2
     have n_ := aC (blk_drew BK174.out) (aE (below_drew1 HB.out))
     clear BK174 HB
     obtain ⟨BK174, HB⟩ := n_
     refine st 15 (fun w' => w'.cell? ⟨gb174, 0, none⟩ = some (.int .i64 a0_0) ∧ w'.cell? ⟨gb174, 1, none⟩ = some (.string a0_1) ∧ w'.cell? ⟨gb174, 2, none⟩ = some (.int .i64 a0_2) ∧ w'.cell? ⟨gb174, 3, none⟩ = some (.slice A0_3 l0_3.length c0_3)) [] (bv 15 0) incunablelaw25_NoteFormats.tab5 incunablelaw25_NoteFormats.bits5 ⟨kc0 BK174.out, kc1 BK174.out, kc2 BK174.out, kc3 BK174.out⟩ (fun hHeld HT_ HW_ => ?_)
     generalize w18.drew = w23 at BK174 HB hHeld ⊢
     refine pu 0 21 (bv 15 1) HT_ rfl rfl ?_
     refine pu 1 22 (bv 15 3) HT_ rfl rfl ?_
     refine pu 2 23 (bv 15 7) HT_ rfl rfl ?_
     refine pu 3 24 (bv 15 15) HT_ rfl rfl ?_
     refine pu 4 25 (bv 15 31) HT_ rfl rfl ?_
     refine pu 5 26 (bv 15 63) HT_ rfl rfl ?_
     refine pu 6 27 (bv 15 127) HT_ rfl rfl ?_
     refine pu 7 28 (bv 15 255) HT_ rfl rfl ?_
     refine pu 8 29 (bv 15 511) HT_ rfl rfl ?_
     refine tk 9 30 (bv 15 1023) HT_ HW_ hHeld rfl rfl (by rintro w' ⟨s0, s1, s2, s3⟩; exact yl) ?_
     refine tk 11 32 (bv 15 3071) HT_ HW_ hHeld rfl rfl (by rintro w' ⟨s0, s1, s2, s3⟩; exact yl) ?_
     refine one_ (i := 10) (N := some 31) (bv 15 4095) rfl rfl (one_of HT_.out (by kernel_rfl)) (by decide) (fun K hK => ?_)
     refine gK Tryd.func33 rfl #[.agg #[.int .i64 a0_0, .string a0_1, .int .i64 a0_2, .slice A0_3 l0_3.length c0_3]] rfl rfl ?_
     with_reducible refine (note_Valid.calls k a0_0 a0_1 a0_2 _ _ l0_3 t181 _ ?side1 ?side2 A21.out).mono ?_
     (case side1 => exact cU (Kd.C_below HR0_3.out HB.out))
     (case side2 => exact HC0_3.out)
     rintro e w24 ⟨rfl, hb⟩
     refine ⟨_, rfl, ?_⟩
     have n_ := aC (blk_below (bU BK174.out) hb) (aE (bs hb))
     clear BK174 HB
     obtain ⟨BK174, HB⟩ := n_
     (try clear hb)
     (try clear hb2)
     (try clear hk)
     (try clear hi)
     refine hK.out _ _ ⟨kc0 BK174.out, kc1 BK174.out, kc2 BK174.out, kc3 BK174.out⟩ (fun hHeld => ?_)
     clear hK K
     refine nm (some 31) ?_
     refine one_ (i := 12) (N := some 33) (bv 15 8191) rfl rfl (one_of HT_.out (by kernel_rfl)) (by decide) (fun K hK => ?_)
     refine gK Tryd.func34 rfl #[.agg #[.int .i64 a0_0, .string a0_1, .int .i64 a0_2, .slice A0_3 l0_3.length c0_3]] rfl rfl ?_
     with_reducible refine (incunableref25_Valid.calls k a0_0 a0_1 a0_2 _ _ l0_3 t182 _ ?side1 ?side2 A22.out).mono ?_
     (case side1 => exact cU (Kd.C_below HR0_3.out HB.out))
     (case side2 => exact HC0_3.out)
     rintro e w25 ⟨rfl, hb⟩
     refine ⟨_, rfl, ?_⟩
     have n_ := aC (blk_below (bU BK174.out) hb) (aE (bs hb))
     clear BK174 HB
     obtain ⟨BK174, HB⟩ := n_
     (try clear hb)
     (try clear hb2)
     (try clear hk)
     (try clear hi)
     refine hK.out _ _ ⟨kc0 BK174.out, kc1 BK174.out, kc2 BK174.out, kc3 BK174.out⟩ (fun hHeld => ?_)
     clear hK K
     refine nm (some 33) ?_
     refine pu 13 34 (bv 15 16383) HT_ rfl rfl ?_
     refine pu 14 35 (bv 15 32767) HT_ rfl rfl ?_
     refine done_ (done_of HT_.out (by kernel_rfl)) ?_
     try go_wp2
     go_meet
     case rel => exact ⟨_, ((t181 != t182)), rq, H', ⟨by first | omega | exact Nat.le_refl _⟩, ⟨bU BK174.out⟩, ⟨bl⟩⟩
    ·have H' := Aside0.mk H
     clear H
     try go_wp2
     have n_ := aC (blk_drew BK174.out) (aE (below_drew1 HB.out))
     clear BK174 HB
     obtain ⟨BK174, HB⟩ := n_
     refine st 15 (fun w' => True) [] (bv 15 0) incunablelaw25_NoteFormats.tab5 incunablelaw25_NoteFormats.bits5 trivial (fun hHeld HT_ HW_ => ?_)
     generalize w18.drew = w26 at BK174 HB hHeld ⊢
     refine pu 0 21 (bv 15 1) HT_ rfl rfl ?_
     refine pu 1 22 (bv 15 3) HT_ rfl rfl ?_
     refine pu 2 23 (bv 15 7) HT_ rfl rfl ?_
     refine pu 3 24 (bv 15 15) HT_ rfl rfl ?_
     refine pu 4 25 (bv 15 31) HT_ rfl rfl ?_
     refine pu 5 26 (bv 15 63) HT_ rfl rfl ?_
     refine pu 6 27 (bv 15 127) HT_ rfl rfl ?_
     refine pu 7 28 (bv 15 255) HT_ rfl rfl ?_
     refine pu 8 29 (bv 15 511) HT_ rfl rfl ?_
     refine pn 9 30 (bv 15 1023) HT_ rfl rfl ?_
     refine pn 10 31 (bv 15 2047) HT_ rfl rfl ?_
     refine pn 11 32 (bv 15 4095) HT_ rfl rfl ?_
     refine pn 12 33 (bv 15 8191) HT_ rfl rfl ?_
     refine pn 13 34 (bv 15 16383) HT_ rfl rfl ?_
     refine pu 14 35 (bv 15 32767) HT_ rfl rfl ?_
     refine done_ (done_of HT_.out (by kernel_rfl)) ?_
     try go_wp2
     go_meet
     case rel => exact ⟨_, (true), rq, H', ⟨by first | omega | exact Nat.le_refl _⟩, ⟨bU BK174.out⟩, ⟨bl⟩⟩
   ·(first | rw [c19b0] | (simp only [i64_w, i32_w]; rw [c19b0]) | skip)
    have H' := Aside0.mk H
    clear H
    try go_wp2
    have n_ := aC (blk_drew BK174.out) (aE (below_drew1 HB.out))
    clear BK174 HB
    obtain ⟨BK174, HB⟩ := n_
    refine st 15 (fun w' => True) [] (bv 15 0) incunablelaw25_NoteFormats.tab5 incunablelaw25_NoteFormats.bits5 trivial (fun hHeld HT_ HW_ => ?_)
    generalize w18.drew = w27 at BK174 HB hHeld ⊢
    refine pu 0 21 (bv 15 1) HT_ rfl rfl ?_
    refine pu 1 22 (bv 15 3) HT_ rfl rfl ?_
    refine pu 2 23 (bv 15 7) HT_ rfl rfl ?_
    refine pu 3 24 (bv 15 15) HT_ rfl rfl ?_
    refine pn 4 25 (bv 15 31) HT_ rfl rfl ?_
    refine pn 5 26 (bv 15 63) HT_ rfl rfl ?_
    refine pn 6 27 (bv 15 127) HT_ rfl rfl ?_
    refine pu 7 28 (bv 15 255) HT_ rfl rfl ?_
    refine pu 8 29 (bv 15 511) HT_ rfl rfl ?_
    refine pn 9 30 (bv 15 1023) HT_ rfl rfl ?_
    refine pn 10 31 (bv 15 2047) HT_ rfl rfl ?_
    refine pn 11 32 (bv 15 4095) HT_ rfl rfl ?_
    refine pn 12 33 (bv 15 8191) HT_ rfl rfl ?_
    refine pn 13 34 (bv 15 16383) HT_ rfl rfl ?_
    refine pu 14 35 (bv 15 32767) HT_ rfl rfl ?_
    refine done_ (done_of HT_.out (by kernel_rfl)) ?_
    try go_wp2
    go_meet
    case rel => exact ⟨_, (true), rq, H', ⟨by first | omega | exact Nat.le_refl _⟩, ⟨bU BK174.out⟩, ⟨bl⟩⟩
  case rest =>
   clear HC11
   obtain ⟨kq, x35_10, rfl, HA, HJ10, BK174, HB⟩ := hcut
   cases kq with
   | zero => exact absurd HA.out (by simp [incunablelaw25_NoteFormats.j0])
   | succ kj10 =>
    have H := HA.out
    clear HA
    simp only [incunablelaw25_NoteFormats.j0] at H
    by_cases c28 : x35_10 = true
    ·subst c28
     rw [if_pos rfl] at H
     exact absurd ((Option.some.inj H).trans HR_.out) (by decide)
    ·replace c28 := Bool.eq_false_iff.mpr c28
     subst c28
     rw [if_neg Bool.false_ne_true] at H
     have HC29 := Aside0.mk H
     clear H
     go_upto_region 7 with (fail)
     go_cut [42] (fun v42 wc => ∃ (kq : Nat) (x42_28 : Bool), v42 = .bool x42_28 ∧ Aside0 (incunablelaw25_NoteFormats.j1 kq t177 x42_28 a0_0 a0_1 a0_2 l0_3 = some r) ∧ Aside0 (kq ≤ kj10) ∧ Aside0 (wc.heap[gb174]? = some (.cells #[.int .i64 a0_0, .string a0_1, .int .i64 a0_2, (.slice A0_3 l0_3.length c0_3)] 33 (0, 0))) ∧ Aside0 (Below w.heap.size w wc))
     case first =>
      have H := HC29.out
      clear HC29
      rcases iE H with H1 | H1 <;> clear H <;> obtain ⟨H, c30b0, c30b1, c30⟩ := H1
      ·(first | rw [c30b0] | (simp only [i64_w, i32_w]; rw [c30b0]) | skip)
       have H' := Aside0.mk H
       clear H
       go_wp2
       go_meet
       case rel => exact ⟨_, (decide ((t177.size : Int) > 20000)), rq, H', ⟨by have := HJ10.out; first | omega | exact Nat.le_refl _⟩, ⟨bU BK174.out⟩, ⟨bl⟩⟩
      ·(first | rw [c30b0] | (simp only [i64_w, i32_w]; rw [c30b0]) | skip)
       have H' := Aside0.mk H
       clear H
       go_wp2
       go_meet
       case rel => exact ⟨_, (true), rq, H', ⟨by have := HJ10.out; first | omega | exact Nat.le_refl _⟩, ⟨bU BK174.out⟩, ⟨bl⟩⟩
     case rest =>
      clear HC29
      obtain ⟨kq, x42_28, rfl, HA, HJ28, BK174, HB⟩ := hcut
      cases kq with
      | zero => exact absurd HA.out (by simp [incunablelaw25_NoteFormats.j1])
      | succ kj28 =>
       have H := HA.out
       clear HA
       simp only [incunablelaw25_NoteFormats.j1] at H
       by_cases c31 : x42_28 = true
       ·subst c31
        rw [if_pos rfl] at H
        obtain ⟨t183, A32, H⟩ := oB H
        try dsimp only at H
        obtain rfl := Option.some.inj H
        go_wp2_with (first | (refine gF 11 43 Tryd.func11 #[] rfl rfl ?_; (with_reducible refine (incunablelaw25_Sane.calls kj28  t183 _ (TIs.on HTI) A32.out).mono ?_); rintro e w33 ⟨rfl, hb⟩; refine ⟨_, rfl, ?_⟩; have n_ := aC (blk_below (bU BK174.out) hb) (aE (bs hb)); clear BK174 HB; obtain ⟨BK174, HB⟩ := n_))
        go_ret
        exact ⟨re, bl⟩
       ·replace c31 := Bool.eq_false_iff.mpr c31
        subst c31
        rw [if_neg Bool.false_ne_true] at H
        obtain ⟨⟨t184, t185, t186, t187, t190⟩, A34, H⟩ := oB H
        try dsimp only at H
        rcases iE H with H1 | H1 <;> clear H <;> obtain ⟨H, c35b0, c35b1, c35⟩ := H1
        ·obtain ⟨t192, A36, H⟩ := oB H
         try dsimp only at H
         by_cases c37 : t192 = true
         ·subst c37
          rw [if_pos rfl] at H
          obtain ⟨t193, A38, H⟩ := oB H
          try dsimp only at H
          obtain rfl := Option.some.inj H
          go_wp2_with (first | (refine gF 35 46 Tryd.func35 #[.string t177] rfl rfl ?_; (with_reducible refine (note_Parse.calls kj28 t177 t184 t185 t186 t187 t190 _ (TIs.on HTI) A34.out).mono ?_); rintro e w39 ⟨v188, rfl, ho0, hb⟩; refine ⟨_, rfl, ?_⟩; have n_ := aC (Kd.R_lower (Kd.R_newB ho0 (bU BK174.out)) bz) (aC (blk_below (bU BK174.out) hb) (aE (bs hb))); clear BK174 HB; obtain ⟨HO189, BK174, HB⟩ := n_) | ((with_reducible refine gd 7 rfl ?_); (try (refine gate_guard (by rfl) ?_; dsimp only)); refine bx 7 #[.int .i64 0, .string (⟨#[]⟩ : ByteArray), .int .i64 0, .slice none 0 0] 33 rfl rfl ?_; intro gb191 hg w40 hbox hb; have n_ := aC (Kd.R_below (Kd.R_elderB (rU HO189.out) gb191 (Nat.le_of_eq hg.symm)) hb) (aC (blk_below (bU BK174.out) hb) (aC (bs hb) (aC hbox (aC (gz hg) (aC (gz hg) (aC (gn hg (bU BK174.out)) (aE (gm hg (bU BK174.out))))))))); clear HO189 BK174 HB; obtain ⟨HO189, BK174, HB, BK191, GW191, GE191, NB174_191, NB191_174⟩ := n_; clear hb hbox hg; have hnb41 := NB191_174.out; have hnc41 := NB174_191.out; obtain ⟨hcz42_0, hcz42_1, hcz42_2, hcz42_3, hfz42_0, hfz42_1, hfz42_2, hfz42_3⟩ := cz4f BK191.out; obtain ⟨Ao43, co43, eo43⟩ := Kd.R_slice HO189.out; subst eo43; obtain ⟨hcz44_0, hcz44_1, hcz44_2, hcz44_3, hfz44_0, hfz44_1, hfz44_2, hfz44_3⟩ := cz4f BK174.out) | (go_at_call 36; (with_reducible refine (incunableref25_SameExpr.calls kj28 t184 t185 t186 _ _ t187 a0_0 a0_1 a0_2 _ _ l0_3 true _ ?side1 ?side2 ?side3 ?side4 A36.out).mono ?_); (case side1 => refine (Kd.R_reads' (e := 33) (base := w.heap.size) (ok := fun k_ => ((True ∧ k_ ≠ gb174) ∧ k_ ≠ gb191)) (n := t187.length) (c := co43) ?_).2.2; exact (rU (Kd.R_mono (Kd.R_far (p := ⟨gb191, 3, none⟩) (Kd.R_far (p := ⟨gb191, 2, none⟩) (Kd.R_far (p := ⟨gb191, 1, none⟩) (Kd.R_far (p := ⟨gb191, 0, none⟩) (Kd.R_mono HO189.out (fun k_ hk => (⟨hk, hk.2⟩ : _ ∧ k_ ≠ gb191))) (fun _ hk => hk.2) (.int .i64 t184)) (fun _ hk => hk.2) (.string t185)) (fun _ hk => hk.2) (.int .i64 t186)) (fun _ hk => hk.2) (.slice Ao43 t187.length co43)) (fun _ h_ => h_.1)))); (case side2 => exact (Kd.R_reads' HO189.out).2.1); (case side3 => exact Kd.C_below HR0_3.out bl); (case side4 => exact HC0_3.out); rintro e w45 ⟨rfl, hb⟩; have n_ := aC (Kd.R_below (rU (Kd.R_mono (Kd.R_far (p := ⟨gb191, 3, none⟩) (Kd.R_far (p := ⟨gb191, 2, none⟩) (Kd.R_far (p := ⟨gb191, 1, none⟩) (Kd.R_far (p := ⟨gb191, 0, none⟩) (Kd.R_mono HO189.out (fun k_ hk => (⟨hk, hk.2⟩ : _ ∧ k_ ≠ gb191))) (fun _ hk => hk.2) (.int .i64 t184)) (fun _ hk => hk.2) (.string t185)) (fun _ hk => hk.2) (.int .i64 t186)) (fun _ hk => hk.2) (.slice Ao43 t187.length co43)) (fun _ h_ => h_.1))) hb) (aC (blk_below (g := gb174) (o := .cells #[.int .i64 a0_0, .string a0_1, .int .i64 a0_2, .slice A0_3 l0_3.length c0_3] 33 (0, 0)) (by (with_reducible repeat (first | refine blk_drewN ?_ _ | refine blk_drew ?_ | refine blk_alloc ?_ _)); refine blk_far ?_ NB174_191.out _; (with_reducible repeat (first | refine blk_drewN ?_ _ | refine blk_drew ?_ | refine blk_alloc ?_ _)); refine blk_far ?_ NB174_191.out _; (with_reducible repeat (first | refine blk_drewN ?_ _ | refine blk_drew ?_ | refine blk_alloc ?_ _)); refine blk_far ?_ NB174_191.out _; (with_reducible repeat (first | refine blk_drewN ?_ _ | refine blk_drew ?_ | refine blk_alloc ?_ _)); refine blk_far ?_ NB174_191.out _; (with_reducible repeat (first | refine blk_drewN ?_ _ | refine blk_drew ?_ | refine blk_alloc ?_ _)); exact BK174.out) hb) (aC (blk_below (g := gb191) (o := .cells #[.int .i64 t184, .string t185, .int .i64 t186, .slice Ao43 t187.length co43] 33 (0, 0)) (by (with_reducible repeat (first | refine blk_drewN ?_ _ | refine blk_drew ?_ | refine blk_alloc ?_ _)); refine blk_put (cs := #[.int .i64 t184, .string t185, .int .i64 t186, .slice none 0 0]) ?_ 3 _ rfl; (with_reducible repeat (first | refine blk_drewN ?_ _ | refine blk_drew ?_ | refine blk_alloc ?_ _)); refine blk_put (cs := #[.int .i64 t184, .string t185, .int .i64 0, .slice none 0 0]) ?_ 2 _ rfl; (with_reducible repeat (first | refine blk_drewN ?_ _ | refine blk_drew ?_ | refine blk_alloc ?_ _)); refine blk_put (cs := #[.int .i64 t184, .string (⟨#[]⟩ : ByteArray), .int .i64 0, .slice none 0 0]) ?_ 1 _ rfl; (with_reducible repeat (first | refine blk_drewN ?_ _ | refine blk_drew ?_ | refine blk_alloc ?_ _)); refine blk_put (cs := #[.int .i64 0, .string (⟨#[]⟩ : ByteArray), .int .i64 0, .slice none 0 0]) ?_ 0 _ rfl; (with_reducible repeat (first | refine blk_drewN ?_ _ | refine blk_drew ?_ | refine blk_alloc ?_ _)); exact BK191.out) hb) (aE (bs hb)))); clear HO189 BK174 BK191 HB; obtain ⟨HO189, BK174, BK191, HB⟩ := n_) | (go_at_call 11; (with_reducible refine (incunablelaw25_Sane.calls kj28  t193 _ (TIs.on HTI) A38.out).mono ?_); rintro e w46 ⟨rfl, hb⟩; have n_ := aC (Kd.R_below (rU HO189.out) hb) (aC (blk_below (bU BK174.out) hb) (aC (blk_below (bU BK191.out) hb) (aE (bs hb)))); clear HO189 BK174 BK191 HB; obtain ⟨HO189, BK174, BK191, HB⟩ := n_))
          go_ret
          exact ⟨re, bl⟩
         ·replace c37 := Bool.eq_false_iff.mpr c37
          subst c37
          rw [if_neg Bool.false_ne_true] at H
          exact absurd ((Option.some.inj H).trans HR_.out) (by decide)
        ·exact absurd ((Option.some.inj H).trans HR_.out) (by decide)
def Good33 : Nat → S33 → Prop
 | 0, _ => False
 | n + 1, x => ((Lit.int .i64 x.f0).wf = true) ∧ (x.f1.size ≤ 140737488351232) ∧ ((Lit.int .i64 x.f2).wf = true) ∧ (x.f3.length ≤ 9223372036854775807 ∧ x.f3.length * 56 ≤ 140737488351232 ∧ ∀ y ∈ x.f3, Good33 n y)
def incunablelaw25_NoteFormats.Pure : Prop := ∀ (a0_0 : Int) (a0_1 : ByteArray) (a0_2 : Int) (l0_3 : List (S33)), ((Lit.int .i64 a0_0).wf = true) → (a0_1.size ≤ 140737488351232) → ((Lit.int .i64 a0_2).wf = true) → (l0_3.length ≤ 9223372036854775807 ∧ l0_3.length * 56 ≤ 140737488351232 ∧ ∀ y0_ ∈ l0_3, ∃ n_, Good33 n_ y0_) → ∃ k, incunablelaw25_NoteFormats.f k a0_0 a0_1 a0_2 l0_3 = some true
theorem incunablelaw25_NoteFormats.walk (P : incunablelaw25_NoteFormats.Pure) (a0_0 : Int) (a0_1 : ByteArray) (a0_2 : Int) (A0_3 : Option Addr) (c0_3 : Nat) (l0_3 : List (S33)) (w : World) (hT0 : TIs w) (hr0_3 : Kd.C k33 w A0_3 l0_3.length l0_3) (hc0_3 : l0_3.length ≤ c0_3) (g0_0 : (Lit.int .i64 a0_0).wf = true) (g0_1 : a0_1.size ≤ 140737488351232) (g0_2 : (Lit.int .i64 a0_2).wf = true) (g0_3 : l0_3.length ≤ 9223372036854775807 ∧ l0_3.length * 56 ≤ 140737488351232 ∧ ∀ y0_ ∈ l0_3, ∃ n_, Good33 n_ y0_) :
  Calls Tryd.prog 8 #[.agg #[.int .i64 a0_0, .string a0_1, .int .i64 a0_2, .slice A0_3 l0_3.length c0_3]] w fun e w' => e = .returned (.bool true) ∧ Below w.heap.size w w' := by
 obtain ⟨k, h⟩ := P a0_0 a0_1 a0_2 l0_3 g0_0 g0_1 g0_2 g0_3
 refine (incunablelaw25_NoteFormats.calls k a0_0 a0_1 a0_2 A0_3 c0_3 l0_3 true w hT0 hr0_3 hc0_3 h rfl).mono ?_
 rintro e w' ⟨rfl, hd⟩
 exact ⟨rfl, hd⟩
end Go.Proofs.YtacdchogjpeffaaDoor.PNoteFormats
