-- printed (wip/tools/myprint.py)
import Derived.Test.YtacdchogjpeffaaDoorPNoteAreasx0
import Derived.Test.YtacdchogjpeffaaDoorPNoteAreasx1
import Derived.Test.YtacdchogjpeffaaDoorPNoteAreasx3
import Derived.Test.YtacdchogjpeffaaDoorPNoteAreasx5
import Derived.Test.YtacdchogjpeffaaDoorPNoteAreasx6
import Derived.Test.YtacdchogjpeffaaDoorPNoteAreasx12
namespace Go.Proofs.YtacdchogjpeffaaDoor.PNoteAreas
open Go.RowKit Go.Proofs.YtacdchogjpeffaaDoorW.PrintWords Go.Proofs.YtacdchogjpeffaaDoorW.PrintLast Go.Proofs.YtacdchogjpeffaaDoorW.PrintMore
attribute [local go_sem] max2_int min2_int max_two min_two max_three min_three max_four min_four
set_option linter.unusedVariables false
set_option linter.unusedSimpArgs false
attribute [local go_sem high] eqA39
mutual
def incunablelaw25_NoteAreas.j0 : Nat → List (S39) → List (S39) → Bool → Option (Bool)
 | 0, _, _, _ => none
 | k + 1, x3, x5, x37 => if x37 = true then (some false) else (incunablelaw25_NoteAreas.l0 k x3 x5 0)
def incunablelaw25_NoteAreas.l0 : Nat → List (S39) → List (S39) → Int → Option (Bool)
 | 0, _, _, _ => none
 | k + 1, x3, x5, x7 => if x7 < (x3.length : Int) then (if 0 ≤ x7 then (if x7 < (x5.length : Int) then (if (!(((rd_T39 x3 x7).f0) == ((rd_T39 x5 x7).f0)) || (!(((rd_T39 x3 x7).f1) == ((rd_T39 x5 x7).f1)) || (!(((rd_T39 x3 x7).f2) == ((rd_T39 x5 x7).f2)) || (!(((rd_T39 x3 x7).f3) == ((rd_T39 x5 x7).f3)))))) = true then (some false) else (incunablelaw25_NoteAreas.l0 k x3 x5 (wrap64 (x7 + 1)))) else (none)) else (none)) else ((incunablelaw25_Sane.f k).bind fun t256 => (some t256))
end
def incunablelaw25_NoteAreas.f (k : Nat) (a0_0 : Int) (a0_1 : ByteArray) (a0_2 : Int) (l0_3 : List (S33)) : Option (Bool) := (incunablelaw25_Deep.f k a0_0 a0_1 a0_2 l0_3).bind fun t242 => (if t242 = true then ((incunablelaw25_Sane.f k).bind fun t243 => (some t243)) else ((note_Areas.f k a0_0 a0_1 a0_2 l0_3).bind fun bt244 => ((incunableref25_Areas.f k a0_0 a0_1 a0_2 l0_3).bind fun bt248 => (if bt244.2 = bt248.2 then (if (bt244.1.length : Int) = (bt248.1.length : Int) then ((note_IsNotes.f k a0_0 a0_1 a0_2 l0_3).bind fun t252 => ((incunableref25_IsNotes.f k a0_0 a0_1 a0_2 l0_3).bind fun t253 => (incunablelaw25_NoteAreas.j0 k bt244.1 bt248.1 (t252 != t253)))) else (incunablelaw25_NoteAreas.j0 k bt244.1 bt248.1 true)) else (incunablelaw25_NoteAreas.j0 k bt244.1 bt248.1 true)))))
theorem incunablelaw25_NoteAreas.mono_l : ∀ k, (∀ y0 y1 y2, LeO (incunablelaw25_NoteAreas.j0 k y0 y1 y2) (incunablelaw25_NoteAreas.j0 (k + 1) y0 y1 y2)) ∧ (∀ y0 y1 y2, LeO (incunablelaw25_NoteAreas.l0 k y0 y1 y2) (incunablelaw25_NoteAreas.l0 (k + 1) y0 y1 y2))
 | 0 => ⟨fun _ _ _ r h => by simp [incunablelaw25_NoteAreas.j0] at h, fun _ _ _ r h => by simp [incunablelaw25_NoteAreas.l0] at h⟩
 | k + 1 => by
  obtain ⟨ih0, ih1⟩ := incunablelaw25_NoteAreas.mono_l k
  refine ⟨?_, ?_⟩
  ·intro y0 y1 y2
   unfold incunablelaw25_NoteAreas.j0
   repeat' first
   | (with_reducible exact ih0 _ _ _)
   | (with_reducible exact ih1 _ _ _)
   | (with_reducible exact incunablelaw25_Deep.mono _ _ _ _ _)
   | (with_reducible exact incunablelaw25_Sane.mono _)
   | (with_reducible exact incunableref25_Areas.mono _ _ _ _ _)
   | (with_reducible exact incunableref25_IsNotes.mono _ _ _ _ _)
   | (with_reducible exact note_Areas.mono _ _ _ _ _)
   | (with_reducible exact note_IsNotes.mono _ _ _ _ _)
   | (with_reducible first | exact LeO.refl _ | exact LeO.none _ | refine LeO.ite ?_ ?_ | refine LeO.bind ?_ (fun _ => ?_))
  ·intro y0 y1 y2
   unfold incunablelaw25_NoteAreas.l0
   repeat' first
   | (with_reducible exact ih0 _ _ _)
   | (with_reducible exact ih1 _ _ _)
   | (with_reducible exact incunablelaw25_Deep.mono _ _ _ _ _)
   | (with_reducible exact incunablelaw25_Sane.mono _)
   | (with_reducible exact incunableref25_Areas.mono _ _ _ _ _)
   | (with_reducible exact incunableref25_IsNotes.mono _ _ _ _ _)
   | (with_reducible exact note_Areas.mono _ _ _ _ _)
   | (with_reducible exact note_IsNotes.mono _ _ _ _ _)
   | (with_reducible first | exact LeO.refl _ | exact LeO.none _ | refine LeO.ite ?_ ?_ | refine LeO.bind ?_ (fun _ => ?_))
theorem incunablelaw25_NoteAreas.mono : ∀ a0 a1 a2 a3 k, LeO (incunablelaw25_NoteAreas.f k a0 a1 a2 a3) (incunablelaw25_NoteAreas.f (k + 1) a0 a1 a2 a3) := by
 intro a0 a1 a2 a3 k
 obtain ⟨ih0, ih1⟩ := incunablelaw25_NoteAreas.mono_l k
 unfold incunablelaw25_NoteAreas.f
 repeat' first
   | (with_reducible exact ih0 _ _ _)
   | (with_reducible exact ih1 _ _ _)
   | (with_reducible exact incunablelaw25_Deep.mono _ _ _ _ _)
   | (with_reducible exact incunablelaw25_Sane.mono _)
   | (with_reducible exact incunableref25_Areas.mono _ _ _ _ _)
   | (with_reducible exact incunableref25_IsNotes.mono _ _ _ _ _)
   | (with_reducible exact note_Areas.mono _ _ _ _ _)
   | (with_reducible exact note_IsNotes.mono _ _ _ _ _)
   | (with_reducible first | exact LeO.refl _ | exact LeO.none _ | refine LeO.ite ?_ ?_ | refine LeO.bind ?_ (fun _ => ?_))
def incunablelaw25_NoteAreas.T5 : Bool × List (List Nat × List Nat) := (true, [([], []), ([], []), ([0, 1], [0, 1]), ([2], [2]), ([3], [3]), ([4, 3], [3, 4]), ([3], [3]), ([6, 3], [3, 6]), ([5, 7, 3], [3, 5, 7]), ([3, 8], [3, 8]), ([9, 3], [9]), ([10], [10]), ([11, 10, 10], [10, 11]), ([10], [10]), ([13, 12, 10], [10, 13]), ([12, 14, 10], [10, 12, 14]), ([10, 15], [10, 15])])
def incunablelaw25_NoteAreas.B5 : List Nat := [0, 0, 3, 7, 15, 31, 15, 79, 255, 511, 1023, 2047, 4095, 2047, 16383, 32767, 65535]
theorem incunablelaw25_NoteAreas.tab5 : rtab .any (opsOf Tryd.f4 5) = incunablelaw25_NoteAreas.T5 := by kernel_rfl
theorem incunablelaw25_NoteAreas.bits5 : waitsOk incunablelaw25_NoteAreas.T5.2 incunablelaw25_NoteAreas.B5 = true := by kernel_rfl
def incunablelaw25_NoteAreas.T10 : Bool × List (List Nat × List Nat) := (true, [([], []), ([], []), ([0, 1], [0, 1]), ([2], [2]), ([], []), ([], []), ([4, 5], [4, 5]), ([6], [6]), ([3, 7], [3, 7])])
def incunablelaw25_NoteAreas.B10 : List Nat := [0, 0, 3, 7, 0, 0, 48, 112, 255]
theorem incunablelaw25_NoteAreas.tab10 : rtab .any (opsOf Tryd.f4 10) = incunablelaw25_NoteAreas.T10 := by kernel_rfl
theorem incunablelaw25_NoteAreas.bits10 : waitsOk incunablelaw25_NoteAreas.T10.2 incunablelaw25_NoteAreas.B10 = true := by kernel_rfl
set_option maxHeartbeats 8000000 in
set_option maxRecDepth 100000 in
theorem incunablelaw25_NoteAreas.calls (k : Nat) (a0_0 : Int) (a0_1 : ByteArray) (a0_2 : Int) (A0_3 : Option Addr) (c0_3 : Nat) (l0_3 : List (S33)) (r : Bool) (w : World) (hT0 : TIs w) (hr0_3 : Kd.C k33 w A0_3 l0_3.length l0_3) (hc0_3 : l0_3.length ≤ c0_3) (h : incunablelaw25_NoteAreas.f k a0_0 a0_1 a0_2 l0_3 = some r) (hr_ : r = true) :
  Calls Tryd.prog 4 #[.agg #[.int .i64 a0_0, .string a0_1, .int .i64 a0_2, .slice A0_3 l0_3.length c0_3]] w fun e w' => e = .returned (.bool r) ∧ Below w.heap.size w w' := by
 have HTI := Aside0.mk hT0
 clear hT0
 have HR_ := Aside0.mk hr_
 clear hr_
 have hu33 := Tryd.underlying33
 have hu39 := Tryd.underlying39
 have HR0_3 := Aside0.mk hr0_3
 have HC0_3 := Aside0.mk hc0_3
 clear hr0_3 hc0_3
 have HB := Aside0.mk (Below.refl w.heap.size w)
 have H := h
 unfold incunablelaw25_NoteAreas.f at H
 clear h
 obtain ⟨t242, A2, H⟩ := oB H
 try dsimp only at H
 by_cases c3 : t242 = true
 ·subst c3
  rw [if_pos rfl] at H
  obtain ⟨t243, A4, H⟩ := oB H
  try dsimp only at H
  obtain rfl := Option.some.inj H
  go_enter Tryd.func4, Tryd.ntmps4
  go_wp2_with (first | ((with_reducible refine gd 1 rfl ?_); (try (refine gate_guard (by rfl) ?_; dsimp only)); refine bx 1 #[.int .i64 a0_0, .string a0_1, .int .i64 a0_2, .slice A0_3 l0_3.length c0_3] 33 rfl rfl ?_; intro gb241 hg w5 hbox hb; have n_ := aC (bs hb) (aC hbox (aC (gz hg) (aE (gz hg)))); clear HB; obtain ⟨HB, BK241, GW241, GE241⟩ := n_; clear hb hbox hg; obtain ⟨hcz6_0, hcz6_1, hcz6_2, hcz6_3, hfz6_0, hfz6_1, hfz6_2, hfz6_3⟩ := cz4f BK241.out) | (refine gF 16 9 Tryd.func16 #[.agg #[.int .i64 a0_0, .string a0_1, .int .i64 a0_2, .slice A0_3 l0_3.length c0_3]] rfl rfl ?_; (with_reducible refine (incunablelaw25_Deep.calls k a0_0 a0_1 a0_2 _ _ l0_3 true _ ?side1 ?side2 A2.out).mono ?_); (case side1 => exact cU (Kd.C_below HR0_3.out HB.out)); (case side2 => exact HC0_3.out); rintro e w7 ⟨rfl, hb⟩; refine ⟨_, rfl, ?_⟩; have n_ := aC (blk_below (bU BK241.out) hb) (aE (bs hb)); clear BK241 HB; obtain ⟨BK241, HB⟩ := n_) | (refine gF 11 10 Tryd.func11 #[] rfl rfl ?_; (with_reducible refine (incunablelaw25_Sane.calls k  t243 _ (TIs.on HTI) A4.out).mono ?_); rintro e w8 ⟨rfl, hb⟩; refine ⟨_, rfl, ?_⟩; have n_ := aC (blk_below (bU BK241.out) hb) (aE (bs hb)); clear BK241 HB; obtain ⟨BK241, HB⟩ := n_))
  go_ret
  exact ⟨re, bl⟩
 ·replace c3 := Bool.eq_false_iff.mpr c3
  subst c3
  rw [if_neg Bool.false_ne_true] at H
  obtain ⟨⟨t244, t247⟩, A9, H⟩ := oB H
  try dsimp only at H
  obtain ⟨⟨t248, t251⟩, A10, H⟩ := oB H
  try dsimp only at H
  have HC11 := Aside0.mk H
  clear H
  go_enter Tryd.func4, Tryd.ntmps4
  go_upto_region 5 with (first | ((with_reducible refine gd 1 rfl ?_); (try (refine gate_guard (by rfl) ?_; dsimp only)); refine bx 1 #[.int .i64 a0_0, .string a0_1, .int .i64 a0_2, .slice A0_3 l0_3.length c0_3] 33 rfl rfl ?_; intro gb241 hg w12 hbox hb; have n_ := aC (bs hb) (aC hbox (aC (gz hg) (aE (gz hg)))); clear HB; obtain ⟨HB, BK241, GW241, GE241⟩ := n_; clear hb hbox hg; obtain ⟨hcz13_0, hcz13_1, hcz13_2, hcz13_3, hfz13_0, hfz13_1, hfz13_2, hfz13_3⟩ := cz4f BK241.out) | (refine gF 16 9 Tryd.func16 #[.agg #[.int .i64 a0_0, .string a0_1, .int .i64 a0_2, .slice A0_3 l0_3.length c0_3]] rfl rfl ?_; (with_reducible refine (incunablelaw25_Deep.calls k a0_0 a0_1 a0_2 _ _ l0_3 false _ ?side1 ?side2 A2.out).mono ?_); (case side1 => exact cU (Kd.C_below HR0_3.out HB.out)); (case side2 => exact HC0_3.out); rintro e w14 ⟨rfl, hb⟩; refine ⟨_, rfl, ?_⟩; have n_ := aC (blk_below (bU BK241.out) hb) (aE (bs hb)); clear BK241 HB; obtain ⟨BK241, HB⟩ := n_; obtain ⟨hcz15_0, hcz15_1, hcz15_2, hcz15_3, hfz15_0, hfz15_1, hfz15_2, hfz15_3⟩ := cz4f BK241.out) | (refine gF 17 13 Tryd.func17 #[.agg #[.int .i64 a0_0, .string a0_1, .int .i64 a0_2, .slice A0_3 l0_3.length c0_3]] rfl rfl ?_; (with_reducible refine (note_Areas.calls k a0_0 a0_1 a0_2 _ _ l0_3 t244 t247 _ ?side1 ?side2 A9.out).mono ?_); (case side1 => exact cU (Kd.C_below HR0_3.out HB.out)); (case side2 => exact HC0_3.out); rintro e w16 ⟨v245, rfl, ho0, hb⟩; refine ⟨_, rfl, ?_⟩; have n_ := aC (Kd.R_lower ho0 bz) (aC (blk_below (bU BK241.out) hb) (aE (bs hb))); clear BK241 HB; obtain ⟨HO246, BK241, HB⟩ := n_; obtain ⟨hcz17_0, hcz17_1, hcz17_2, hcz17_3, hfz17_0, hfz17_1, hfz17_2, hfz17_3⟩ := cz4f BK241.out) | (refine gF 18 18 Tryd.func18 #[.agg #[.int .i64 a0_0, .string a0_1, .int .i64 a0_2, .slice A0_3 l0_3.length c0_3]] rfl rfl ?_; (with_reducible refine (incunableref25_Areas.calls k a0_0 a0_1 a0_2 _ _ l0_3 t248 t251 _ ?side1 ?side2 A10.out).mono ?_); (case side1 => exact cU (Kd.C_below HR0_3.out HB.out)); (case side2 => exact HC0_3.out); rintro e w18 ⟨v249, rfl, ho0, hb⟩; refine ⟨_, rfl, ?_⟩; have n_ := aC (Kd.R_elder' (rU HO246.out) (Kd.R_base ho0) hb) (aC (Kd.R_lower (Kd.R_new' ho0 (Kd.R_lt (rU HO246.out))) bz) (aC (blk_below (bU BK241.out) hb) (aE (bs hb)))); clear HO246 BK241 HB; obtain ⟨HO246, HO250, BK241, HB⟩ := n_))
  (try simp only [Act.put, List.setIfInBounds_toArray, List.set_cons_zero, List.set_cons_succ])
  go_cut [37] (fun v37 wc => ∃ (kq : Nat) (x37_10 : Bool), v37 = .bool x37_10 ∧ Aside0 (incunablelaw25_NoteAreas.j0 kq t244 t248 x37_10 = some r) ∧ Aside0 (kq ≤ k) ∧ Aside0 (Kd.R k39 39 wc w.heap.size (fun k_ => some k_ ≠ (v249 : Value).ownBlock) v245 t244) ∧ Aside0 (Kd.R k39 39 wc w.heap.size (fun k_ => some k_ ≠ (v245 : Value).ownBlock) v249 t248) ∧ Aside0 (wc.heap[gb241]? = some (.cells #[.int .i64 a0_0, .string a0_1, .int .i64 a0_2, (.slice A0_3 l0_3.length c0_3)] 33 (0, 0))) ∧ Aside0 (Below w.heap.size w wc))
  case first =>
   have H := HC11.out
   clear HC11
   rcases iE H with H1 | H1 <;> clear H <;> obtain ⟨H, c19b0, c19b1, c19⟩ := H1
   ·(first | rw [c19b0] | (simp only [i64_w, i32_w]; rw [c19b0]) | skip)
    by_cases c20 : (t244.length : Int) = (t248.length : Int)
    ·rw [if_pos c20] at H
     have c20b0 := beq_iff_eq.mpr c20
     have c20b1 := bne_eq_false_iff_eq.mpr c20
     have c20b2 : (t244.length == t248.length) = true := by first | simpa using c20 | (simp at c20 ⊢; omega)
     clear c20
     obtain ⟨t252, A21, H⟩ := oB H
     try dsimp only at H
     obtain ⟨t253, A22, H⟩ := oB H
     try dsimp only at H
     have H' := Aside0.mk H
     clear H
     try go_wp2
     have n_ := aC (Kd.R_drew HO246.out) (aC (Kd.R_drew HO250.out) (aC (blk_drew BK241.out) (aE (below_drew1 HB.out))))
     clear HO246 HO250 BK241 HB
     obtain ⟨HO246, HO250, BK241, HB⟩ := n_
     obtain ⟨Ao24, co24, eo24⟩ := Kd.R_slice HO246.out
     (first | subst eo24 | (injection eo24 with f1_ f2_ f3_; have f4_ := f1_.symm; have f5_ := f3_.symm; clear f1_ f2_ f3_; subst f4_; subst f5_))
     obtain ⟨Ao25, co25, eo25⟩ := Kd.R_slice HO250.out
     (first | subst eo25 | (injection eo25 with f1_ f2_ f3_; have f4_ := f1_.symm; have f5_ := f3_.symm; clear f1_ f2_ f3_; subst f4_; subst f5_))
     refine st 17 (fun w' => w'.cell? ⟨gb241, 0, none⟩ = some (.int .i64 a0_0) ∧ w'.cell? ⟨gb241, 1, none⟩ = some (.string a0_1) ∧ w'.cell? ⟨gb241, 2, none⟩ = some (.int .i64 a0_2) ∧ w'.cell? ⟨gb241, 3, none⟩ = some (.slice A0_3 l0_3.length c0_3)) [] (bv 17 0) incunablelaw25_NoteAreas.tab5 incunablelaw25_NoteAreas.bits5 ⟨kc0 BK241.out, kc1 BK241.out, kc2 BK241.out, kc3 BK241.out⟩ (fun hHeld HT_ HW_ => ?_)
     generalize w18.drew = w23 at HO246 HO250 BK241 HB hHeld ⊢
     refine pu 0 21 (bv 17 1) HT_ rfl rfl ?_
     refine pu 1 22 (bv 17 3) HT_ rfl rfl ?_
     refine pu 2 23 (bv 17 7) HT_ rfl rfl ?_
     refine pu 3 24 (bv 17 15) HT_ rfl rfl ?_
     refine pu 4 25 (bv 17 31) HT_ rfl rfl ?_
     refine pu 5 26 (bv 17 63) HT_ rfl rfl ?_
     refine pu 6 27 (bv 17 127) HT_ rfl rfl ?_
     refine pu 7 28 (bv 17 255) HT_ rfl rfl ?_
     refine pu 8 29 (bv 17 511) HT_ rfl rfl ?_
     refine pu 9 30 (bv 17 1023) HT_ rfl rfl ?_
     refine pu 10 31 (bv 17 2047) HT_ rfl rfl ?_
     refine tk 11 32 (bv 17 4095) HT_ HW_ hHeld rfl rfl (by rintro w' ⟨s0, s1, s2, s3⟩; exact yl) ?_
     refine tk 13 34 (bv 17 12287) HT_ HW_ hHeld rfl rfl (by rintro w' ⟨s0, s1, s2, s3⟩; exact yl) ?_
     refine one_ (i := 12) (N := some 33) (bv 17 16383) rfl rfl (one_of HT_.out (by kernel_rfl)) (by decide) (fun K hK => ?_)
     refine gK Tryd.func19 rfl #[.agg #[.int .i64 a0_0, .string a0_1, .int .i64 a0_2, .slice A0_3 l0_3.length c0_3]] rfl rfl ?_
     with_reducible refine (note_IsNotes.calls k a0_0 a0_1 a0_2 _ _ l0_3 t252 _ ?side1 ?side2 A21.out).mono ?_
     (case side1 => exact cU (Kd.C_below HR0_3.out HB.out))
     (case side2 => exact HC0_3.out)
     rintro e w26 ⟨rfl, hb⟩
     refine ⟨_, rfl, ?_⟩
     have n_ := aC (Kd.R_below (rU HO246.out) hb) (aC (Kd.R_below (rU HO250.out) hb) (aC (blk_below (bU BK241.out) hb) (aE (bs hb))))
     clear HO246 HO250 BK241 HB
     obtain ⟨HO246, HO250, BK241, HB⟩ := n_
     (try clear hb)
     (try clear hb2)
     (try clear hk)
     (try clear hi)
     refine hK.out _ _ ⟨kc0 BK241.out, kc1 BK241.out, kc2 BK241.out, kc3 BK241.out⟩ (fun hHeld => ?_)
     clear hK K
     refine nm (some 33) ?_
     refine one_ (i := 14) (N := some 35) (bv 17 32767) rfl rfl (one_of HT_.out (by kernel_rfl)) (by decide) (fun K hK => ?_)
     refine gK Tryd.func20 rfl #[.agg #[.int .i64 a0_0, .string a0_1, .int .i64 a0_2, .slice A0_3 l0_3.length c0_3]] rfl rfl ?_
     with_reducible refine (incunableref25_IsNotes.calls k a0_0 a0_1 a0_2 _ _ l0_3 t253 _ ?side1 ?side2 A22.out).mono ?_
     (case side1 => exact cU (Kd.C_below HR0_3.out HB.out))
     (case side2 => exact HC0_3.out)
     rintro e w27 ⟨rfl, hb⟩
     refine ⟨_, rfl, ?_⟩
     have n_ := aC (Kd.R_below (rU HO246.out) hb) (aC (Kd.R_below (rU HO250.out) hb) (aC (blk_below (bU BK241.out) hb) (aE (bs hb))))
     clear HO246 HO250 BK241 HB
     obtain ⟨HO246, HO250, BK241, HB⟩ := n_
     (try clear hb)
     (try clear hb2)
     (try clear hk)
     (try clear hi)
     refine hK.out _ _ ⟨kc0 BK241.out, kc1 BK241.out, kc2 BK241.out, kc3 BK241.out⟩ (fun hHeld => ?_)
     clear hK K
     refine nm (some 35) ?_
     refine pu 15 36 (bv 17 65535) HT_ rfl rfl ?_
     refine pu 16 37 (bv 17 131071) HT_ rfl rfl ?_
     refine done_ (done_of HT_.out (by kernel_rfl)) ?_
     try go_wp2
     go_meet
     case rel => exact ⟨_, ((t252 != t253)), rq, H', ⟨by first | omega | exact Nat.le_refl _⟩, ⟨rU (Kd.R_mono HO246.out (fun _ hk => hk.2))⟩, ⟨rU (Kd.R_mono HO250.out (fun _ hk => hk.2))⟩, ⟨bU BK241.out⟩, ⟨bl⟩⟩
    ·rw [if_neg c20] at H
     have c20b0 := beq_eq_false_iff_ne.mpr c20
     have c20b1 := bne_iff_ne.mpr c20
     have c20b2 : (t244.length == t248.length) = false := by first | simpa using c20 | (simp at c20 ⊢; omega)
     have H' := Aside0.mk H
     clear H
     try go_wp2
     have n_ := aC (Kd.R_drew HO246.out) (aC (Kd.R_drew HO250.out) (aC (blk_drew BK241.out) (aE (below_drew1 HB.out))))
     clear HO246 HO250 BK241 HB
     obtain ⟨HO246, HO250, BK241, HB⟩ := n_
     obtain ⟨Ao29, co29, eo29⟩ := Kd.R_slice HO246.out
     (first | subst eo29 | (injection eo29 with f1_ f2_ f3_; have f4_ := f1_.symm; have f5_ := f3_.symm; clear f1_ f2_ f3_; subst f4_; subst f5_))
     obtain ⟨Ao30, co30, eo30⟩ := Kd.R_slice HO250.out
     (first | subst eo30 | (injection eo30 with f1_ f2_ f3_; have f4_ := f1_.symm; have f5_ := f3_.symm; clear f1_ f2_ f3_; subst f4_; subst f5_))
     refine st 17 (fun w' => True) [] (bv 17 0) incunablelaw25_NoteAreas.tab5 incunablelaw25_NoteAreas.bits5 trivial (fun hHeld HT_ HW_ => ?_)
     generalize w18.drew = w28 at HO246 HO250 BK241 HB hHeld ⊢
     refine pu 0 21 (bv 17 1) HT_ rfl rfl ?_
     refine pu 1 22 (bv 17 3) HT_ rfl rfl ?_
     refine pu 2 23 (bv 17 7) HT_ rfl rfl ?_
     refine pu 3 24 (bv 17 15) HT_ rfl rfl ?_
     refine pu 4 25 (bv 17 31) HT_ rfl rfl ?_
     refine pu 5 26 (bv 17 63) HT_ rfl rfl ?_
     refine pu 6 27 (bv 17 127) HT_ rfl rfl ?_
     refine pu 7 28 (bv 17 255) HT_ rfl rfl ?_
     refine pu 8 29 (bv 17 511) HT_ rfl rfl ?_
     refine pu 9 30 (bv 17 1023) HT_ rfl rfl ?_
     refine pu 10 31 (bv 17 2047) HT_ rfl rfl ?_
     refine pn 11 32 (bv 17 4095) HT_ rfl rfl ?_
     refine pn 12 33 (bv 17 8191) HT_ rfl rfl ?_
     refine pn 13 34 (bv 17 16383) HT_ rfl rfl ?_
     refine pn 14 35 (bv 17 32767) HT_ rfl rfl ?_
     refine pn 15 36 (bv 17 65535) HT_ rfl rfl ?_
     refine pu 16 37 (bv 17 131071) HT_ rfl rfl ?_
     refine done_ (done_of HT_.out (by kernel_rfl)) ?_
     try go_wp2
     go_meet
     case rel => exact ⟨_, (true), rq, H', ⟨by first | omega | exact Nat.le_refl _⟩, ⟨rU (Kd.R_mono HO246.out (fun _ hk => hk.2))⟩, ⟨rU (Kd.R_mono HO250.out (fun _ hk => hk.2))⟩, ⟨bU BK241.out⟩, ⟨bl⟩⟩
   ·(first | rw [c19b0] | (simp only [i64_w, i32_w]; rw [c19b0]) | skip)
    have H' := Aside0.mk H
    clear H
    try go_wp2
    have n_ := aC (Kd.R_drew HO246.out) (aC (Kd.R_drew HO250.out) (aC (blk_drew BK241.out) (aE (below_drew1 HB.out))))
    clear HO246 HO250 BK241 HB
    obtain ⟨HO246, HO250, BK241, HB⟩ := n_
    refine st 17 (fun w' => True) [] (bv 17 0) incunablelaw25_NoteAreas.tab5 incunablelaw25_NoteAreas.bits5 trivial (fun hHeld HT_ HW_ => ?_)
    generalize w18.drew = w31 at HO246 HO250 BK241 HB hHeld ⊢
    refine pu 0 21 (bv 17 1) HT_ rfl rfl ?_
    refine pu 1 22 (bv 17 3) HT_ rfl rfl ?_
    refine pu 2 23 (bv 17 7) HT_ rfl rfl ?_
    refine pu 3 24 (bv 17 15) HT_ rfl rfl ?_
    refine pn 4 25 (bv 17 31) HT_ rfl rfl ?_
    refine pn 5 26 (bv 17 63) HT_ rfl rfl ?_
    refine pn 6 27 (bv 17 127) HT_ rfl rfl ?_
    refine pn 7 28 (bv 17 255) HT_ rfl rfl ?_
    refine pn 8 29 (bv 17 511) HT_ rfl rfl ?_
    refine pu 9 30 (bv 17 1023) HT_ rfl rfl ?_
    refine pu 10 31 (bv 17 2047) HT_ rfl rfl ?_
    refine pn 11 32 (bv 17 4095) HT_ rfl rfl ?_
    refine pn 12 33 (bv 17 8191) HT_ rfl rfl ?_
    refine pn 13 34 (bv 17 16383) HT_ rfl rfl ?_
    refine pn 14 35 (bv 17 32767) HT_ rfl rfl ?_
    refine pn 15 36 (bv 17 65535) HT_ rfl rfl ?_
    refine pu 16 37 (bv 17 131071) HT_ rfl rfl ?_
    refine done_ (done_of HT_.out (by kernel_rfl)) ?_
    try go_wp2
    go_meet
    case rel => exact ⟨_, (true), rq, H', ⟨by first | omega | exact Nat.le_refl _⟩, ⟨rU (Kd.R_mono HO246.out (fun _ hk => hk.2))⟩, ⟨rU (Kd.R_mono HO250.out (fun _ hk => hk.2))⟩, ⟨bU BK241.out⟩, ⟨bl⟩⟩
  case rest =>
   clear HC11
   obtain ⟨kq, x37_10, rfl, HA, HJ10, HO_3, HO_5, BK241, HB⟩ := hcut
   cases kq with
   | zero => exact absurd HA.out (by simp [incunablelaw25_NoteAreas.j0])
   | succ kj10 =>
    have H := HA.out
    clear HA
    simp only [incunablelaw25_NoteAreas.j0] at H
    by_cases c32 : x37_10 = true
    ·subst c32
     rw [if_pos rfl] at H
     exact absurd ((Option.some.inj H).trans HR_.out) (by decide)
    ·replace c32 := Bool.eq_false_iff.mpr c32
     subst c32
     rw [if_neg Bool.false_ne_true] at H
     have H' := Aside0.mk H
     clear H
     go_wp2
     go_loopg [7] kj10 (fun kq v7 w' => ∃ (x7_2 : Int), v7 = .int .i64 x7_2 ∧ Aside0 (incunablelaw25_NoteAreas.l0 kq t244 t248 x7_2 = some r) ∧ Aside0 (kq ≤ kj10) ∧ Aside0 (Kd.R k39 39 w' w.heap.size (fun k_ => some k_ ≠ (v249 : Value).ownBlock) v245 t244) ∧ Aside0 (Kd.R k39 39 w' w.heap.size (fun k_ => some k_ ≠ (v245 : Value).ownBlock) v249 t248) ∧ Aside0 (w'.heap[gb241]? = some (.cells #[.int .i64 a0_0, .string a0_1, .int .i64 a0_2, (.slice A0_3 l0_3.length c0_3)] 33 (0, 0))) ∧ Aside0 (Below w.heap.size w w'))
     case atStart => exact ⟨(0), rq, H', ⟨Nat.le_refl _⟩, ⟨rU HO_3.out⟩, ⟨rU HO_5.out⟩, ⟨bU BK241.out⟩, ⟨bl⟩⟩
     case round =>
      clear H'
      obtain ⟨x7_2, rfl, HA, HK2, HO_3, HO_5, BK241, HB⟩ := hrel
      cases gk with
      | zero => exact absurd HA.out (by simp [incunablelaw25_NoteAreas.l0])
      | succ k2 =>
       have H := HA.out
       clear HA
       simp only [incunablelaw25_NoteAreas.l0] at H
       rcases iL H with H1 | H1 <;> clear H <;> obtain ⟨H, c33b0⟩ := H1
       ·by_cases c34 : 0 ≤ x7_2
        ·rw [if_pos c34] at H
         have c34b0 := decide_eq_true c34
         clear c34
         by_cases c35 : x7_2 < (t248.length : Int)
         ·rw [if_pos c35] at H
          have c35b0 := decide_eq_true c35
          clear c35
          by_cases c36 : (!(((rd_T39 t244 x7_2).f0) == ((rd_T39 t248 x7_2).f0)) || (!(((rd_T39 t244 x7_2).f1) == ((rd_T39 t248 x7_2).f1)) || (!(((rd_T39 t244 x7_2).f2) == ((rd_T39 t248 x7_2).f2)) || (!(((rd_T39 t244 x7_2).f3) == ((rd_T39 t248 x7_2).f3)))))) = true
          ·rw [if_pos c36] at H
           have c36b0 : (!(((rd_T39 t244 x7_2).f0) == ((rd_T39 t248 x7_2).f0)) || (!(((rd_T39 t244 x7_2).f1) == ((rd_T39 t248 x7_2).f1)) || (!(((rd_T39 t244 x7_2).f2) == ((rd_T39 t248 x7_2).f2)) || (!(((rd_T39 t244 x7_2).f3) == ((rd_T39 t248 x7_2).f3)))))) = true := c36
           clear c36
           exact absurd ((Option.some.inj H).trans HR_.out) (by decide)
          ·rw [if_neg c36] at H
           have c36b0 : (!(((rd_T39 t244 x7_2).f0) == ((rd_T39 t248 x7_2).f0)) || (!(((rd_T39 t244 x7_2).f1) == ((rd_T39 t248 x7_2).f1)) || (!(((rd_T39 t244 x7_2).f2) == ((rd_T39 t248 x7_2).f2)) || (!(((rd_T39 t244 x7_2).f3) == ((rd_T39 t248 x7_2).f3)))))) = false := by simpa using c36
           clear c36
           have H' := Aside0.mk H
           clear H
           obtain ⟨Ao37, co37, eo37⟩ := Kd.R_slice HO_3.out
           subst eo37
           try go_wp2
           have n_ := aC (Kd.R_drew HO_3.out) (aC (Kd.R_drew HO_5.out) (aC (blk_drew BK241.out) (aE (below_drew1 HB.out))))
           clear HO_3 HO_5 BK241 HB
           obtain ⟨HO_3, HO_5, BK241, HB⟩ := n_
           have p254 : 0 ≤ (x7_2 : Int) := dt
           have q254 : x7_2 < (t244.length : Int) := dt
           obtain ⟨ad254, e254, hx254_0, hx254_1, hx254_2, hx254_3⟩ := at_T39 (Kd.R_reads' HO_3.out).2.2 x7_2 p254 q254
           cases e254
           replace p254 := eq_true p254
           replace q254 := eq_true q254
           obtain ⟨Ao39, co39, eo39⟩ := Kd.R_slice HO_5.out
           (first | subst eo39 | (injection eo39 with f1_ f2_ f3_; have f4_ := f1_.symm; have f5_ := f3_.symm; clear f1_ f2_ f3_; subst f4_; subst f5_))
           have p255 : 0 ≤ (x7_2 : Int) := dt
           have q255 : x7_2 < (t248.length : Int) := dt
           obtain ⟨ad255, e255, hx255_0, hx255_1, hx255_2, hx255_3⟩ := at_T39 (Kd.R_reads' HO_5.out).2.2 x7_2 p255 q255
           cases e255
           replace p255 := eq_true p255
           replace q255 := eq_true q255
           refine st 9 (fun w' => w'.cell? (ad254.add ((x7_2).toNat * 4)) = some (.int .i64 ((rd_T39 t244 x7_2).f0)) ∧ w'.cell? ⟨(ad254.add ((x7_2).toNat * 4)).block, (ad254.add ((x7_2).toNat * 4)).off + 1, none⟩ = some (.int .i64 ((rd_T39 t244 x7_2).f1)) ∧ w'.cell? ⟨(ad254.add ((x7_2).toNat * 4)).block, (ad254.add ((x7_2).toNat * 4)).off + 2, none⟩ = some (.int .i64 ((rd_T39 t244 x7_2).f2)) ∧ w'.cell? ⟨(ad254.add ((x7_2).toNat * 4)).block, (ad254.add ((x7_2).toNat * 4)).off + 3, none⟩ = some (.int .i64 ((rd_T39 t244 x7_2).f3)) ∧ w'.cell? (ad255.add ((x7_2).toNat * 4)) = some (.int .i64 ((rd_T39 t248 x7_2).f0)) ∧ w'.cell? ⟨(ad255.add ((x7_2).toNat * 4)).block, (ad255.add ((x7_2).toNat * 4)).off + 1, none⟩ = some (.int .i64 ((rd_T39 t248 x7_2).f1)) ∧ w'.cell? ⟨(ad255.add ((x7_2).toNat * 4)).block, (ad255.add ((x7_2).toNat * 4)).off + 2, none⟩ = some (.int .i64 ((rd_T39 t248 x7_2).f2)) ∧ w'.cell? ⟨(ad255.add ((x7_2).toNat * 4)).block, (ad255.add ((x7_2).toNat * 4)).off + 3, none⟩ = some (.int .i64 ((rd_T39 t248 x7_2).f3))) [] (bv 9 0) incunablelaw25_NoteAreas.tab10 incunablelaw25_NoteAreas.bits10 ⟨hx254_0, hx254_1, hx254_2, hx254_3, hx255_0, hx255_1, hx255_2, hx255_3⟩ (fun hHeld HT_ HW_ => ?_)
           generalize wr.drew = w38 at HO_3 HO_5 BK241 HB hx254_0 hx254_1 hx254_2 hx254_3 hx255_0 hx255_1 hx255_2 hx255_3 hHeld ⊢
           refine pu 0 44 (bv 9 1) HT_ rfl rfl ?_
           refine pu 1 45 (bv 9 3) HT_ rfl rfl ?_
           refine pu 2 46 (bv 9 7) HT_ rfl rfl ?_
           refine pu 4 48 (bv 9 23) HT_ rfl rfl ?_
           refine pu 5 49 (bv 9 55) HT_ rfl rfl ?_
           refine pu 6 50 (bv 9 119) HT_ rfl rfl ?_
           refine tk 3 47 (bv 9 127) HT_ HW_ hHeld rfl rfl (by rintro w' ⟨s0, s1, s2, s3, s4, s5, s6, s7⟩; exact yl) ?_
           refine tk 7 51 (bv 9 255) HT_ HW_ hHeld rfl rfl (by rintro w' ⟨s0, s1, s2, s3, s4, s5, s6, s7⟩; exact yl) ?_
           refine pu 8 52 (bv 9 511) HT_ rfl rfl ?_
           refine done_ (done_of HT_.out (by kernel_rfl)) ?_
           try go_wp2
           go_roundg k2
           case measure => have := HJ10.out; have := HK2.out; omega
           case rel => exact ⟨(wrap64 (x7_2 + 1)), rq, H', ⟨by have := HJ10.out; have := HK2.out; omega⟩, ⟨rU HO_3.out⟩, ⟨rU HO_5.out⟩, ⟨bU BK241.out⟩, ⟨bl⟩⟩
         ·rw [if_neg c35] at H
          exact absurd H (by simp)
        ·rw [if_neg c34] at H
         exact absurd H (by simp)
       ·obtain ⟨t256, A40, H⟩ := oB H
        try dsimp only at H
        obtain rfl := Option.some.inj H
        obtain ⟨Ao41, co41, eo41⟩ := Kd.R_slice HO_3.out
        subst eo41
        go_wp2_with (first | (refine gF 11 53 Tryd.func11 #[] rfl rfl ?_; (with_reducible refine (incunablelaw25_Sane.calls k2  t256 _ (TIs.on HTI) A40.out).mono ?_); rintro e w42 ⟨rfl, hb⟩; refine ⟨_, rfl, ?_⟩; have n_ := aC (Kd.R_below (rU HO_3.out) hb) (aC (Kd.R_below (rU HO_5.out) hb) (aC (blk_below (bU BK241.out) hb) (aE (bs hb)))); clear HO_3 HO_5 BK241 HB; obtain ⟨HO_3, HO_5, BK241, HB⟩ := n_))
        go_ret
        exact ⟨re, bl⟩
def Good33 : Nat → S33 → Prop
 | 0, _ => False
 | n + 1, x => ((Lit.int .i64 x.f0).wf = true) ∧ (x.f1.size ≤ 140737488351232) ∧ ((Lit.int .i64 x.f2).wf = true) ∧ (x.f3.length ≤ 9223372036854775807 ∧ x.f3.length * 56 ≤ 140737488351232 ∧ ∀ y ∈ x.f3, Good33 n y)
def incunablelaw25_NoteAreas.Pure : Prop := ∀ (a0_0 : Int) (a0_1 : ByteArray) (a0_2 : Int) (l0_3 : List (S33)), ((Lit.int .i64 a0_0).wf = true) → (a0_1.size ≤ 140737488351232) → ((Lit.int .i64 a0_2).wf = true) → (l0_3.length ≤ 9223372036854775807 ∧ l0_3.length * 56 ≤ 140737488351232 ∧ ∀ y0_ ∈ l0_3, ∃ n_, Good33 n_ y0_) → ∃ k, incunablelaw25_NoteAreas.f k a0_0 a0_1 a0_2 l0_3 = some true
theorem incunablelaw25_NoteAreas.walk (P : incunablelaw25_NoteAreas.Pure) (a0_0 : Int) (a0_1 : ByteArray) (a0_2 : Int) (A0_3 : Option Addr) (c0_3 : Nat) (l0_3 : List (S33)) (w : World) (hT0 : TIs w) (hr0_3 : Kd.C k33 w A0_3 l0_3.length l0_3) (hc0_3 : l0_3.length ≤ c0_3) (g0_0 : (Lit.int .i64 a0_0).wf = true) (g0_1 : a0_1.size ≤ 140737488351232) (g0_2 : (Lit.int .i64 a0_2).wf = true) (g0_3 : l0_3.length ≤ 9223372036854775807 ∧ l0_3.length * 56 ≤ 140737488351232 ∧ ∀ y0_ ∈ l0_3, ∃ n_, Good33 n_ y0_) :
  Calls Tryd.prog 4 #[.agg #[.int .i64 a0_0, .string a0_1, .int .i64 a0_2, .slice A0_3 l0_3.length c0_3]] w fun e w' => e = .returned (.bool true) ∧ Below w.heap.size w w' := by
 obtain ⟨k, h⟩ := P a0_0 a0_1 a0_2 l0_3 g0_0 g0_1 g0_2 g0_3
 refine (incunablelaw25_NoteAreas.calls k a0_0 a0_1 a0_2 A0_3 c0_3 l0_3 true w hT0 hr0_3 hc0_3 h rfl).mono ?_
 rintro e w' ⟨rfl, hd⟩
 exact ⟨rfl, hd⟩
end Go.Proofs.YtacdchogjpeffaaDoor.PNoteAreas
