-- printed (wip/tools/myprint.py)
import Derived.Test.YtacdchogjpeffaaDoorPNoteHitsx0
import Derived.Test.YtacdchogjpeffaaDoorPNoteHitsx2
import Derived.Test.YtacdchogjpeffaaDoorPNoteHitsx5
import Derived.Test.YtacdchogjpeffaaDoorPNoteHitsx6
import Derived.Test.YtacdchogjpeffaaDoorPNoteHitsx12
namespace Go.Proofs.YtacdchogjpeffaaDoor.PNoteHits
open Go.RowKit Go.Proofs.YtacdchogjpeffaaDoorW.PrintWords Go.Proofs.YtacdchogjpeffaaDoorW.PrintLast Go.Proofs.YtacdchogjpeffaaDoorW.PrintMore
attribute [local go_sem] max2_int min2_int max_two min_two max_three min_three max_four min_four
set_option linter.unusedVariables false
set_option linter.unusedSimpArgs false
mutual
def incunablelaw25_NoteHits.j0 : Nat → Int → Int → ByteArray → Int → Bool → Int → ByteArray → Int → List (S33) → Option (Bool)
 | 0, _, _, _, _, _, _, _, _, _ => none
 | k + 1, x1, x2, x7, x8, x37, x253000, x253001, x253002, x253003 => if x37 = true then (some false) else (if x8 = 0 then ((note_Areas.f k x253000 x253001 x253002 x253003).bind fun bt260 => (if bt260.2 = 0 then (incunablelaw25_NoteHits.j1 k x1 x2 x7 bt260.1 ((bt260.1.length : Int) != (x253003.length : Int)) x253000 x253001 x253002 x253003) else (incunablelaw25_NoteHits.j1 k x1 x2 x7 bt260.1 true x253000 x253001 x253002 x253003))) else ((incunablelaw25_Sane.f k).bind fun t259 => (some t259)))
def incunablelaw25_NoteHits.j1 : Nat → Int → Int → ByteArray → List (S39) → Bool → Int → ByteArray → Int → List (S33) → Option (Bool)
 | 0, _, _, _, _, _, _, _, _, _ => none
 | k + 1, x1, x2, x7, x11, x55, x253000, x253001, x253002, x253003 => if x55 = true then (some false) else (incunablelaw25_NoteHits.l0 k x1 x2 x7 x11 0 x253000 x253001 x253002 x253003)
def incunablelaw25_NoteHits.l0 : Nat → Int → Int → ByteArray → List (S39) → Int → Int → ByteArray → Int → List (S33) → Option (Bool)
 | 0, _, _, _, _, _, _, _, _, _ => none
 | k + 1, x1, x2, x7, x11, x12, x253000, x253001, x253002, x253003 => if x12 < (x11.length : Int) then (if 0 ≤ x12 then (if x12 < (x253003.length : Int) then (if 1 < (((rd_T33 x253003 x12).f3).length : Int) then (if ((rd_T33 ((rd_T33 x253003 x12).f3) 1).f1).toList = x7.toList then ((incunableref25_Inside.f ((rd_T39 x11 x12).f0) ((rd_T39 x11 x12).f1) ((rd_T39 x11 x12).f2) ((rd_T39 x11 x12).f3) x1 x2).bind fun t267 => (if t267 = true then ((incunablelaw25_Sane.f k).bind fun t268 => (some t268)) else (incunablelaw25_NoteHits.l0 k x1 x2 x7 x11 (wrap64 (x12 + 1)) x253000 x253001 x253002 x253003))) else (incunablelaw25_NoteHits.l0 k x1 x2 x7 x11 (wrap64 (x12 + 1)) x253000 x253001 x253002 x253003)) else (none)) else (none)) else (none)) else (some false)
end
def incunablelaw25_NoteHits.f (k : Nat) (a0_0 : Int) (a0_1 : ByteArray) (a0_2 : Int) (l0_3 : List (S33)) (a1 : Int) (a2 : Int) : Option (Bool) := (incunablelaw25_Deep.f k a0_0 a0_1 a0_2 l0_3).bind fun t253 => (if t253 = true then ((incunablelaw25_Sane.f k).bind fun t254 => (some t254)) else ((note_Hit.f k a0_0 a0_1 a0_2 l0_3 a1 a2).bind fun bt255 => ((incunableref25_Hit.f k a0_0 a0_1 a0_2 l0_3 a1 a2).bind fun bt257 => (if bt255.1.toList = bt257.1.toList then (incunablelaw25_NoteHits.j0 k a1 a2 bt255.1 bt255.2 (bt255.2 != bt257.2) a0_0 a0_1 a0_2 l0_3) else (incunablelaw25_NoteHits.j0 k a1 a2 bt255.1 bt255.2 true a0_0 a0_1 a0_2 l0_3)))))
theorem incunablelaw25_NoteHits.mono_l : ∀ k, (∀ y0 y1 y2 y3 y4 y5 y6 y7 y8, LeO (incunablelaw25_NoteHits.j0 k y0 y1 y2 y3 y4 y5 y6 y7 y8) (incunablelaw25_NoteHits.j0 (k + 1) y0 y1 y2 y3 y4 y5 y6 y7 y8)) ∧ (∀ y0 y1 y2 y3 y4 y5 y6 y7 y8, LeO (incunablelaw25_NoteHits.j1 k y0 y1 y2 y3 y4 y5 y6 y7 y8) (incunablelaw25_NoteHits.j1 (k + 1) y0 y1 y2 y3 y4 y5 y6 y7 y8)) ∧ (∀ y0 y1 y2 y3 y4 y5 y6 y7 y8, LeO (incunablelaw25_NoteHits.l0 k y0 y1 y2 y3 y4 y5 y6 y7 y8) (incunablelaw25_NoteHits.l0 (k + 1) y0 y1 y2 y3 y4 y5 y6 y7 y8))
 | 0 => ⟨fun _ _ _ _ _ _ _ _ _ r h => by simp [incunablelaw25_NoteHits.j0] at h, fun _ _ _ _ _ _ _ _ _ r h => by simp [incunablelaw25_NoteHits.j1] at h, fun _ _ _ _ _ _ _ _ _ r h => by simp [incunablelaw25_NoteHits.l0] at h⟩
 | k + 1 => by
  obtain ⟨ih0, ih1, ih2⟩ := incunablelaw25_NoteHits.mono_l k
  refine ⟨?_, ?_, ?_⟩
  ·intro y0 y1 y2 y3 y4 y5 y6 y7 y8
   unfold incunablelaw25_NoteHits.j0
   repeat' first
   | (with_reducible exact ih0 _ _ _ _ _ _ _ _ _)
   | (with_reducible exact ih1 _ _ _ _ _ _ _ _ _)
   | (with_reducible exact ih2 _ _ _ _ _ _ _ _ _)
   | (with_reducible exact incunablelaw25_Deep.mono _ _ _ _ _)
   | (with_reducible exact incunablelaw25_Sane.mono _)
   | (with_reducible exact incunableref25_Hit.mono _ _ _ _ _ _ _)
   | (with_reducible exact note_Areas.mono _ _ _ _ _)
   | (with_reducible exact note_Hit.mono _ _ _ _ _ _ _)
   | (with_reducible first | exact LeO.refl _ | exact LeO.none _ | refine LeO.ite ?_ ?_ | refine LeO.bind ?_ (fun _ => ?_))
  ·intro y0 y1 y2 y3 y4 y5 y6 y7 y8
   unfold incunablelaw25_NoteHits.j1
   repeat' first
   | (with_reducible exact ih0 _ _ _ _ _ _ _ _ _)
   | (with_reducible exact ih1 _ _ _ _ _ _ _ _ _)
   | (with_reducible exact ih2 _ _ _ _ _ _ _ _ _)
   | (with_reducible exact incunablelaw25_Deep.mono _ _ _ _ _)
   | (with_reducible exact incunablelaw25_Sane.mono _)
   | (with_reducible exact incunableref25_Hit.mono _ _ _ _ _ _ _)
   | (with_reducible exact note_Areas.mono _ _ _ _ _)
   | (with_reducible exact note_Hit.mono _ _ _ _ _ _ _)
   | (with_reducible first | exact LeO.refl _ | exact LeO.none _ | refine LeO.ite ?_ ?_ | refine LeO.bind ?_ (fun _ => ?_))
  ·intro y0 y1 y2 y3 y4 y5 y6 y7 y8
   unfold incunablelaw25_NoteHits.l0
   repeat' first
   | (with_reducible exact ih0 _ _ _ _ _ _ _ _ _)
   | (with_reducible exact ih1 _ _ _ _ _ _ _ _ _)
   | (with_reducible exact ih2 _ _ _ _ _ _ _ _ _)
   | (with_reducible exact incunablelaw25_Deep.mono _ _ _ _ _)
   | (with_reducible exact incunablelaw25_Sane.mono _)
   | (with_reducible exact incunableref25_Hit.mono _ _ _ _ _ _ _)
   | (with_reducible exact note_Areas.mono _ _ _ _ _)
   | (with_reducible exact note_Hit.mono _ _ _ _ _ _ _)
   | (with_reducible first | exact LeO.refl _ | exact LeO.none _ | refine LeO.ite ?_ ?_ | refine LeO.bind ?_ (fun _ => ?_))
theorem incunablelaw25_NoteHits.mono : ∀ a0 a1 a2 a3 a4 a5 k, LeO (incunablelaw25_NoteHits.f k a0 a1 a2 a3 a4 a5) (incunablelaw25_NoteHits.f (k + 1) a0 a1 a2 a3 a4 a5) := by
 intro a0 a1 a2 a3 a4 a5 k
 obtain ⟨ih0, ih1, ih2⟩ := incunablelaw25_NoteHits.mono_l k
 unfold incunablelaw25_NoteHits.f
 repeat' first
   | (with_reducible exact ih0 _ _ _ _ _ _ _ _ _)
   | (with_reducible exact ih1 _ _ _ _ _ _ _ _ _)
   | (with_reducible exact ih2 _ _ _ _ _ _ _ _ _)
   | (with_reducible exact incunablelaw25_Deep.mono _ _ _ _ _)
   | (with_reducible exact incunablelaw25_Sane.mono _)
   | (with_reducible exact incunableref25_Hit.mono _ _ _ _ _ _ _)
   | (with_reducible exact note_Areas.mono _ _ _ _ _)
   | (with_reducible exact note_Hit.mono _ _ _ _ _ _ _)
   | (with_reducible first | exact LeO.refl _ | exact LeO.none _ | refine LeO.ite ?_ ?_ | refine LeO.bind ?_ (fun _ => ?_))
set_option maxHeartbeats 8000000 in
set_option maxRecDepth 100000 in
theorem incunablelaw25_NoteHits.calls (k : Nat) (a0_0 : Int) (a0_1 : ByteArray) (a0_2 : Int) (A0_3 : Option Addr) (c0_3 : Nat) (l0_3 : List (S33)) (a1 : Int) (a2 : Int) (r : Bool) (w : World) (hT0 : TIs w) (hr0_3 : Kd.C k33 w A0_3 l0_3.length l0_3) (hc0_3 : l0_3.length ≤ c0_3) (h : incunablelaw25_NoteHits.f k a0_0 a0_1 a0_2 l0_3 a1 a2 = some r) (hr_ : r = true) :
  Calls Tryd.prog 5 #[.agg #[.int .i64 a0_0, .string a0_1, .int .i64 a0_2, .slice A0_3 l0_3.length c0_3], .int .i64 a1, .int .i64 a2] w fun e w' => e = .returned (.bool r) ∧ Below w.heap.size w w' := by
 have HTI := Aside0.mk hT0
 clear hT0
 have HR_ := Aside0.mk hr_
 clear hr_
 have hu33 := Tryd.underlying33
 have hu39 := Tryd.underlying39
 have HR0_3 := Aside0.mk hr0_3
 have HC0_3 := Aside0.mk hc0_3
 clear hr0_3 hc0_3
 have HB := Aside0.mk (Below.refl w.heap.size w)
 have H := h
 unfold incunablelaw25_NoteHits.f at H
 clear h
 obtain ⟨t253, A4, H⟩ := oB H
 try dsimp only at H
 by_cases c5 : t253 = true
 ·subst c5
  rw [if_pos rfl] at H
  obtain ⟨t254, A6, H⟩ := oB H
  try dsimp only at H
  obtain rfl := Option.some.inj H
  go_enter Tryd.func5, Tryd.ntmps5
  go_wp2_with (first | ((with_reducible refine gd 3 rfl ?_); (try (refine gate_guard (by rfl) ?_; dsimp only)); refine bx 3 #[.int .i64 a0_0, .string a0_1, .int .i64 a0_2, .slice A0_3 l0_3.length c0_3] 33 rfl rfl ?_; intro gb252 hg w7 hbox hb; have n_ := aC (bs hb) (aC hbox (aC (gz hg) (aE (gz hg)))); clear HB; obtain ⟨HB, BK252, GW252, GE252⟩ := n_; clear hb hbox hg; obtain ⟨hcz8_0, hcz8_1, hcz8_2, hcz8_3, hfz8_0, hfz8_1, hfz8_2, hfz8_3⟩ := cz4f BK252.out) | (refine gF 16 14 Tryd.func16 #[.agg #[.int .i64 a0_0, .string a0_1, .int .i64 a0_2, .slice A0_3 l0_3.length c0_3]] rfl rfl ?_; (with_reducible refine (incunablelaw25_Deep.calls k a0_0 a0_1 a0_2 _ _ l0_3 true _ ?side1 ?side2 A4.out).mono ?_); (case side1 => exact cU (Kd.C_below HR0_3.out HB.out)); (case side2 => exact HC0_3.out); rintro e w9 ⟨rfl, hb⟩; refine ⟨_, rfl, ?_⟩; have n_ := aC (blk_below (bU BK252.out) hb) (aE (bs hb)); clear BK252 HB; obtain ⟨BK252, HB⟩ := n_) | (refine gF 11 15 Tryd.func11 #[] rfl rfl ?_; (with_reducible refine (incunablelaw25_Sane.calls k  t254 _ (TIs.on HTI) A6.out).mono ?_); rintro e w10 ⟨rfl, hb⟩; refine ⟨_, rfl, ?_⟩; have n_ := aC (blk_below (bU BK252.out) hb) (aE (bs hb)); clear BK252 HB; obtain ⟨BK252, HB⟩ := n_))
  go_ret
  exact ⟨re, bl⟩
 ·replace c5 := Bool.eq_false_iff.mpr c5
  subst c5
  rw [if_neg Bool.false_ne_true] at H
  obtain ⟨⟨t255, t256⟩, A11, H⟩ := oB H
  try dsimp only at H
  obtain ⟨⟨t257, t258⟩, A12, H⟩ := oB H
  try dsimp only at H
  have HC13 := Aside0.mk H
  clear H
  go_enter Tryd.func5, Tryd.ntmps5
  go_upto_region 5 with (first | ((with_reducible refine gd 3 rfl ?_); (try (refine gate_guard (by rfl) ?_; dsimp only)); refine bx 3 #[.int .i64 a0_0, .string a0_1, .int .i64 a0_2, .slice A0_3 l0_3.length c0_3] 33 rfl rfl ?_; intro gb252 hg w14 hbox hb; have n_ := aC (bs hb) (aC hbox (aC (gz hg) (aE (gz hg)))); clear HB; obtain ⟨HB, BK252, GW252, GE252⟩ := n_; clear hb hbox hg; obtain ⟨hcz15_0, hcz15_1, hcz15_2, hcz15_3, hfz15_0, hfz15_1, hfz15_2, hfz15_3⟩ := cz4f BK252.out) | (refine gF 16 14 Tryd.func16 #[.agg #[.int .i64 a0_0, .string a0_1, .int .i64 a0_2, .slice A0_3 l0_3.length c0_3]] rfl rfl ?_; (with_reducible refine (incunablelaw25_Deep.calls k a0_0 a0_1 a0_2 _ _ l0_3 false _ ?side1 ?side2 A4.out).mono ?_); (case side1 => exact cU (Kd.C_below HR0_3.out HB.out)); (case side2 => exact HC0_3.out); rintro e w16 ⟨rfl, hb⟩; refine ⟨_, rfl, ?_⟩; have n_ := aC (blk_below (bU BK252.out) hb) (aE (bs hb)); clear BK252 HB; obtain ⟨BK252, HB⟩ := n_; obtain ⟨hcz17_0, hcz17_1, hcz17_2, hcz17_3, hfz17_0, hfz17_1, hfz17_2, hfz17_3⟩ := cz4f BK252.out) | (refine gF 21 20 Tryd.func21 #[.agg #[.int .i64 a0_0, .string a0_1, .int .i64 a0_2, .slice A0_3 l0_3.length c0_3], .int .i64 a1, .int .i64 a2] rfl rfl ?_; (with_reducible refine (note_Hit.calls k a0_0 a0_1 a0_2 _ _ l0_3 a1 a2 t255 t256 _ ?side1 ?side2 A11.out).mono ?_); (case side1 => exact cU (Kd.C_below HR0_3.out HB.out)); (case side2 => exact HC0_3.out); rintro e w18 ⟨rfl, hb⟩; refine ⟨_, rfl, ?_⟩; have n_ := aC (blk_below (bU BK252.out) hb) (aE (bs hb)); clear BK252 HB; obtain ⟨BK252, HB⟩ := n_; obtain ⟨hcz19_0, hcz19_1, hcz19_2, hcz19_3, hfz19_0, hfz19_1, hfz19_2, hfz19_3⟩ := cz4f BK252.out) | (refine gF 22 27 Tryd.func22 #[.agg #[.int .i64 a0_0, .string a0_1, .int .i64 a0_2, .slice A0_3 l0_3.length c0_3], .int .i64 a1, .int .i64 a2] rfl rfl ?_; (with_reducible refine (incunableref25_Hit.calls k a0_0 a0_1 a0_2 _ _ l0_3 a1 a2 t257 t258 _ ?side1 ?side2 A12.out).mono ?_); (case side1 => exact cU (Kd.C_below HR0_3.out HB.out)); (case side2 => exact HC0_3.out); rintro e w20 ⟨rfl, hb⟩; refine ⟨_, rfl, ?_⟩; have n_ := aC (blk_below (bU BK252.out) hb) (aE (bs hb)); clear BK252 HB; obtain ⟨BK252, HB⟩ := n_))
  (try simp only [Act.put, List.setIfInBounds_toArray, List.set_cons_zero, List.set_cons_succ])
  go_cut [37] (fun v37 wc => ∃ (kq : Nat) (x37_12 : Bool), v37 = .bool x37_12 ∧ Aside0 (incunablelaw25_NoteHits.j0 kq a1 a2 t255 t256 x37_12 a0_0 a0_1 a0_2 l0_3 = some r) ∧ Aside0 (kq ≤ k) ∧ Aside0 (wc.heap[gb252]? = some (.cells #[.int .i64 a0_0, .string a0_1, .int .i64 a0_2, (.slice A0_3 l0_3.length c0_3)] 33 (0, 0))) ∧ Aside0 (Below w.heap.size w wc))
  case first =>
   have H := HC13.out
   clear HC13
   rcases iE H with H1 | H1 <;> clear H <;> obtain ⟨H, c21b0, c21b1, c21⟩ := H1
   ·(first | rw [c21b0] | (simp only [i64_w, i32_w]; rw [c21b0]) | skip)
    have H' := Aside0.mk H
    clear H
    go_wp2
    go_meet
    case rel => exact ⟨_, ((t256 != t258)), rq, H', ⟨by first | omega | exact Nat.le_refl _⟩, ⟨bU BK252.out⟩, ⟨bl⟩⟩
   ·(first | rw [c21b0] | (simp only [i64_w, i32_w]; rw [c21b0]) | skip)
    have H' := Aside0.mk H
    clear H
    go_wp2
    go_meet
    case rel => exact ⟨_, (true), rq, H', ⟨by first | omega | exact Nat.le_refl _⟩, ⟨bU BK252.out⟩, ⟨bl⟩⟩
  case rest =>
   clear HC13
   obtain ⟨kq, x37_12, rfl, HA, HJ12, BK252, HB⟩ := hcut
   cases kq with
   | zero => exact absurd HA.out (by simp [incunablelaw25_NoteHits.j0])
   | succ kj12 =>
    have H := HA.out
    clear HA
    simp only [incunablelaw25_NoteHits.j0] at H
    by_cases c22 : x37_12 = true
    ·subst c22
     rw [if_pos rfl] at H
     exact absurd ((Option.some.inj H).trans HR_.out) (by decide)
    ·replace c22 := Bool.eq_false_iff.mpr c22
     subst c22
     rw [if_neg Bool.false_ne_true] at H
     rcases iE H with H1 | H1 <;> clear H <;> obtain ⟨H, c23b0, c23b1, c23⟩ := H1
     ·obtain ⟨⟨t260, t263⟩, A24, H⟩ := oB H
      try dsimp only at H
      have HC25 := Aside0.mk H
      clear H
      obtain ⟨hcz26_0, hcz26_1, hcz26_2, hcz26_3, hfz26_0, hfz26_1, hfz26_2, hfz26_3⟩ := cz4f BK252.out
      go_upto_region 10 with (first | (refine gF 17 43 Tryd.func17 #[.agg #[.int .i64 a0_0, .string a0_1, .int .i64 a0_2, .slice A0_3 l0_3.length c0_3]] rfl rfl ?_; (with_reducible refine (note_Areas.calls kj12 a0_0 a0_1 a0_2 _ _ l0_3 t260 t263 _ ?side1 ?side2 A24.out).mono ?_); (case side1 => exact cU (Kd.C_below HR0_3.out HB.out)); (case side2 => exact HC0_3.out); rintro e w27 ⟨v261, rfl, ho0, hb⟩; refine ⟨_, rfl, ?_⟩; have n_ := aC (Kd.R_lower ho0 bz) (aC (blk_below (bU BK252.out) hb) (aE (bs hb))); clear BK252 HB; obtain ⟨HO262, BK252, HB⟩ := n_))
      (try simp only [Act.put, List.setIfInBounds_toArray, List.set_cons_zero, List.set_cons_succ])
      go_cut [55] (fun v55 wc => ∃ (kq : Nat) (x55_24 : Bool), v55 = .bool x55_24 ∧ Aside0 (incunablelaw25_NoteHits.j1 kq a1 a2 t255 t260 x55_24 a0_0 a0_1 a0_2 l0_3 = some r) ∧ Aside0 (kq ≤ kj12) ∧ Aside0 (Kd.R k39 39 wc w.heap.size (fun _ => True) v261 t260) ∧ Aside0 (wc.heap[gb252]? = some (.cells #[.int .i64 a0_0, .string a0_1, .int .i64 a0_2, (.slice A0_3 l0_3.length c0_3)] 33 (0, 0))) ∧ Aside0 (Below w.heap.size w wc))
      case first =>
       have H := HC25.out
       clear HC25
       rcases iE H with H1 | H1 <;> clear H <;> obtain ⟨H, c28b0, c28b1, c28⟩ := H1
       ·(first | rw [c28b0] | (simp only [i64_w, i32_w]; rw [c28b0]) | skip)
        have H' := Aside0.mk H
        clear H
        obtain ⟨Ao29, co29, eo29⟩ := Kd.R_slice HO262.out
        subst eo29
        obtain ⟨hcz30_0, hcz30_1, hcz30_2, hcz30_3, hfz30_0, hfz30_1, hfz30_2, hfz30_3⟩ := cz4f BK252.out
        go_wp2
        go_meet
        case rel => exact ⟨_, (((t260.length : Int) != (l0_3.length : Int))), rq, H', ⟨by have := HJ12.out; first | omega | exact Nat.le_refl _⟩, ⟨rU HO262.out⟩, ⟨bU BK252.out⟩, ⟨bl⟩⟩
       ·(first | rw [c28b0] | (simp only [i64_w, i32_w]; rw [c28b0]) | skip)
        have H' := Aside0.mk H
        clear H
        go_wp2
        go_meet
        case rel => exact ⟨_, (true), rq, H', ⟨by have := HJ12.out; first | omega | exact Nat.le_refl _⟩, ⟨rU HO262.out⟩, ⟨bU BK252.out⟩, ⟨bl⟩⟩
      case rest =>
       clear HC25
       obtain ⟨kq, x55_24, rfl, HA, HJ24, HO_11, BK252, HB⟩ := hcut
       cases kq with
       | zero => exact absurd HA.out (by simp [incunablelaw25_NoteHits.j1])
       | succ kj24 =>
        have H := HA.out
        clear HA
        simp only [incunablelaw25_NoteHits.j1] at H
        by_cases c31 : x55_24 = true
        ·subst c31
         rw [if_pos rfl] at H
         exact absurd ((Option.some.inj H).trans HR_.out) (by decide)
        ·replace c31 := Bool.eq_false_iff.mpr c31
         subst c31
         rw [if_neg Bool.false_ne_true] at H
         have H' := Aside0.mk H
         clear H
         go_wp2
         go_loopg [12] kj24 (fun kq v12 w' => ∃ (x12_3 : Int), v12 = .int .i64 x12_3 ∧ Aside0 (incunablelaw25_NoteHits.l0 kq a1 a2 t255 t260 x12_3 a0_0 a0_1 a0_2 l0_3 = some r) ∧ Aside0 (kq ≤ kj24) ∧ Aside0 (Kd.R k39 39 w' w.heap.size (fun _ => True) v261 t260) ∧ Aside0 (w'.heap[gb252]? = some (.cells #[.int .i64 a0_0, .string a0_1, .int .i64 a0_2, (.slice A0_3 l0_3.length c0_3)] 33 (0, 0))) ∧ Aside0 (Below w.heap.size w w'))
         case atStart => exact ⟨(0), rq, H', ⟨Nat.le_refl _⟩, ⟨rU HO_11.out⟩, ⟨bU BK252.out⟩, ⟨bl⟩⟩
         case round =>
          clear H'
          obtain ⟨x12_3, rfl, HA, HK3, HO_11, BK252, HB⟩ := hrel
          cases gk with
          | zero => exact absurd HA.out (by simp [incunablelaw25_NoteHits.l0])
          | succ k3 =>
           have H := HA.out
           clear HA
           simp only [incunablelaw25_NoteHits.l0] at H
           rcases iL H with H1 | H1 <;> clear H <;> obtain ⟨H, c32b0⟩ := H1
           ·by_cases c33 : 0 ≤ x12_3
            ·rw [if_pos c33] at H
             have c33b0 := decide_eq_true c33
             clear c33
             by_cases c34 : x12_3 < (l0_3.length : Int)
             ·rw [if_pos c34] at H
              have c34b0 := decide_eq_true c34
              clear c34
              by_cases c35 : 1 < (((rd_T33 l0_3 x12_3).f3).length : Int)
              ·rw [if_pos c35] at H
               have c35b0 := decide_eq_true c35
               have c35b1 : decide (1 < ((rd_T33 l0_3 x12_3).f3).length) = true := decide_eq_true (by omega)
               clear c35
               rcases iE H with H1 | H1 <;> clear H <;> obtain ⟨H, c36b0, c36b1, c36⟩ := H1
               ·obtain ⟨t267, A37, H⟩ := oB H
                try dsimp only at H
                by_cases c38 : t267 = true
                ·subst c38
                 rw [if_pos rfl] at H
                 obtain ⟨t268, A39, H⟩ := oB H
                 try dsimp only at H
                 obtain rfl := Option.some.inj H
                 obtain ⟨Ao40, co40, eo40⟩ := Kd.R_slice HO_11.out
                 subst eo40
                 obtain ⟨hcz41_0, hcz41_1, hcz41_2, hcz41_3, hfz41_0, hfz41_1, hfz41_2, hfz41_3⟩ := cz4f BK252.out
                 have p264 : 0 ≤ (x12_3 : Int) := dt
                 have q264 : x12_3 < (l0_3.length : Int) := dt
                 obtain ⟨ad264, A264_3, c264_3, e264, hx264_0, hx264_1, hx264_2, hx264_3, hl264_3, hi264_3⟩ := at_T33 HR0_3.out x12_3 p264 q264
                 cases e264
                 replace hx264_0 := hcB HB.out hx264_0
                 replace hx264_1 := hcB HB.out hx264_1
                 replace hx264_2 := hcB HB.out hx264_2
                 replace hx264_3 := hcB HB.out hx264_3
                 have HR264_3 := Aside0.mk hi264_3
                 have HC264_3 := Aside0.mk hl264_3
                 clear hi264_3 hl264_3
                 replace p264 := eq_true p264
                 replace q264 := eq_true q264
                 have p265 : 0 ≤ (1 : Int) := (by omega)
                 have q265 : 1 < (((rd_T33 l0_3 x12_3).f3).length : Int) := dt
                 obtain ⟨ad265, A265_3, c265_3, e265, hx265_0, hx265_1, hx265_2, hx265_3, hl265_3, hi265_3⟩ := at_T33 HR264_3.out 1 p265 q265
                 cases e265
                 (try simp only [show (1 : Int).toNat = 1 from rfl, Nat.reduceMul, Nat.reduceEqDiff, Go.Addr.add, ↓reduceIte] at hx265_0)
                 (try simp only [show (1 : Int).toNat = 1 from rfl, Nat.reduceMul, Nat.reduceEqDiff, Go.Addr.add, ↓reduceIte] at hx265_1)
                 (try simp only [show (1 : Int).toNat = 1 from rfl, Nat.reduceMul, Nat.reduceEqDiff, Go.Addr.add, ↓reduceIte] at hx265_2)
                 (try simp only [show (1 : Int).toNat = 1 from rfl, Nat.reduceMul, Nat.reduceEqDiff, Go.Addr.add, ↓reduceIte] at hx265_3)
                 have qi265 : (1 < ((rd_T33 l0_3 x12_3).f3).length) = True := eq_true (by omega)
                 (try rw [show ((1 : Int)).toNat = 1 from rfl] at hx265_0)
                 (try rw [show 1 * 4 = 4 from rfl] at hx265_0)
                 (try rw [show ((1 : Int)).toNat = 1 from rfl] at hx265_1)
                 (try rw [show 1 * 4 = 4 from rfl] at hx265_1)
                 (try rw [show ((1 : Int)).toNat = 1 from rfl] at hx265_2)
                 (try rw [show 1 * 4 = 4 from rfl] at hx265_2)
                 (try rw [show ((1 : Int)).toNat = 1 from rfl] at hx265_3)
                 (try rw [show 1 * 4 = 4 from rfl] at hx265_3)
                 replace hx265_0 := hcB HB.out hx265_0
                 replace hx265_1 := hcB HB.out hx265_1
                 replace hx265_2 := hcB HB.out hx265_2
                 replace hx265_3 := hcB HB.out hx265_3
                 have HR265_3 := Aside0.mk hi265_3
                 have HC265_3 := Aside0.mk hl265_3
                 clear hi265_3 hl265_3
                 replace p265 := eq_true p265
                 replace q265 := eq_true q265
                 have p266 : 0 ≤ (x12_3 : Int) := dt
                 have q266 : x12_3 < (t260.length : Int) := dt
                 obtain ⟨ad266, e266, hx266_0, hx266_1, hx266_2, hx266_3⟩ := at_T39 (Kd.R_reads' HO_11.out).2.2 x12_3 p266 q266
                 cases e266
                 replace p266 := eq_true p266
                 replace q266 := eq_true q266
                 go_wp2_with (first | (go_at_call 23; (with_reducible refine (incunableref25_Inside.calls ((rd_T39 t260 x12_3).f0) ((rd_T39 t260 x12_3).f1) ((rd_T39 t260 x12_3).f2) ((rd_T39 t260 x12_3).f3) a1 a2 true _ A37.out).mono ?_); rintro e w42 ⟨rfl, hb⟩; have n_ := aC (Kd.R_below (rU HO_11.out) hb) (aC (blk_below (bU BK252.out) hb) (aE (bs hb))); clear HO_11 BK252 HB; obtain ⟨HO_11, BK252, HB⟩ := n_) | (refine gF 11 82 Tryd.func11 #[] rfl rfl ?_; (with_reducible refine (incunablelaw25_Sane.calls k3  t268 _ (TIs.on HTI) A39.out).mono ?_); rintro e w43 ⟨rfl, hb⟩; refine ⟨_, rfl, ?_⟩; have n_ := aC (Kd.R_below (rU HO_11.out) hb) (aC (blk_below (bU BK252.out) hb) (aE (bs hb))); clear HO_11 BK252 HB; obtain ⟨HO_11, BK252, HB⟩ := n_))
                 go_ret
                 exact ⟨re, bl⟩
                ·replace c38 := Bool.eq_false_iff.mpr c38
                 subst c38
                 rw [if_neg Bool.false_ne_true] at H
                 have H' := Aside0.mk H
                 clear H
                 obtain ⟨Ao44, co44, eo44⟩ := Kd.R_slice HO_11.out
                 subst eo44
                 obtain ⟨hcz45_0, hcz45_1, hcz45_2, hcz45_3, hfz45_0, hfz45_1, hfz45_2, hfz45_3⟩ := cz4f BK252.out
                 have p264 : 0 ≤ (x12_3 : Int) := dt
                 have q264 : x12_3 < (l0_3.length : Int) := dt
                 obtain ⟨ad264, A264_3, c264_3, e264, hx264_0, hx264_1, hx264_2, hx264_3, hl264_3, hi264_3⟩ := at_T33 HR0_3.out x12_3 p264 q264
                 cases e264
                 replace hx264_0 := hcB HB.out hx264_0
                 replace hx264_1 := hcB HB.out hx264_1
                 replace hx264_2 := hcB HB.out hx264_2
                 replace hx264_3 := hcB HB.out hx264_3
                 have HR264_3 := Aside0.mk hi264_3
                 have HC264_3 := Aside0.mk hl264_3
                 clear hi264_3 hl264_3
                 replace p264 := eq_true p264
                 replace q264 := eq_true q264
                 have p265 : 0 ≤ (1 : Int) := (by omega)
                 have q265 : 1 < (((rd_T33 l0_3 x12_3).f3).length : Int) := dt
                 obtain ⟨ad265, A265_3, c265_3, e265, hx265_0, hx265_1, hx265_2, hx265_3, hl265_3, hi265_3⟩ := at_T33 HR264_3.out 1 p265 q265
                 cases e265
                 (try simp only [show (1 : Int).toNat = 1 from rfl, Nat.reduceMul, Nat.reduceEqDiff, Go.Addr.add, ↓reduceIte] at hx265_0)
                 (try simp only [show (1 : Int).toNat = 1 from rfl, Nat.reduceMul, Nat.reduceEqDiff, Go.Addr.add, ↓reduceIte] at hx265_1)
                 (try simp only [show (1 : Int).toNat = 1 from rfl, Nat.reduceMul, Nat.reduceEqDiff, Go.Addr.add, ↓reduceIte] at hx265_2)
                 (try simp only [show (1 : Int).toNat = 1 from rfl, Nat.reduceMul, Nat.reduceEqDiff, Go.Addr.add, ↓reduceIte] at hx265_3)
                 have qi265 : (1 < ((rd_T33 l0_3 x12_3).f3).length) = True := eq_true (by omega)
                 (try rw [show ((1 : Int)).toNat = 1 from rfl] at hx265_0)
                 (try rw [show 1 * 4 = 4 from rfl] at hx265_0)
                 (try rw [show ((1 : Int)).toNat = 1 from rfl] at hx265_1)
                 (try rw [show 1 * 4 = 4 from rfl] at hx265_1)
                 (try rw [show ((1 : Int)).toNat = 1 from rfl] at hx265_2)
                 (try rw [show 1 * 4 = 4 from rfl] at hx265_2)
                 (try rw [show ((1 : Int)).toNat = 1 from rfl] at hx265_3)
                 (try rw [show 1 * 4 = 4 from rfl] at hx265_3)
                 replace hx265_0 := hcB HB.out hx265_0
                 replace hx265_1 := hcB HB.out hx265_1
                 replace hx265_2 := hcB HB.out hx265_2
                 replace hx265_3 := hcB HB.out hx265_3
                 have HR265_3 := Aside0.mk hi265_3
                 have HC265_3 := Aside0.mk hl265_3
                 clear hi265_3 hl265_3
                 replace p265 := eq_true p265
                 replace q265 := eq_true q265
                 have p266 : 0 ≤ (x12_3 : Int) := dt
                 have q266 : x12_3 < (t260.length : Int) := dt
                 obtain ⟨ad266, e266, hx266_0, hx266_1, hx266_2, hx266_3⟩ := at_T39 (Kd.R_reads' HO_11.out).2.2 x12_3 p266 q266
                 cases e266
                 replace p266 := eq_true p266
                 replace q266 := eq_true q266
                 go_wp2_with (first | (go_at_call 23; (with_reducible refine (incunableref25_Inside.calls ((rd_T39 t260 x12_3).f0) ((rd_T39 t260 x12_3).f1) ((rd_T39 t260 x12_3).f2) ((rd_T39 t260 x12_3).f3) a1 a2 false _ A37.out).mono ?_); rintro e w46 ⟨rfl, hb⟩; have n_ := aC (Kd.R_below (rU HO_11.out) hb) (aC (blk_below (bU BK252.out) hb) (aE (bs hb))); clear HO_11 BK252 HB; obtain ⟨HO_11, BK252, HB⟩ := n_))
                 go_roundg k3
                 case measure => have := HJ12.out; have := HJ24.out; have := HK3.out; omega
                 case rel => exact ⟨(wrap64 (x12_3 + 1)), rq, H', ⟨by have := HJ12.out; have := HJ24.out; have := HK3.out; omega⟩, ⟨rU HO_11.out⟩, ⟨bU BK252.out⟩, ⟨bl⟩⟩
               ·have H' := Aside0.mk H
                clear H
                obtain ⟨Ao47, co47, eo47⟩ := Kd.R_slice HO_11.out
                subst eo47
                obtain ⟨hcz48_0, hcz48_1, hcz48_2, hcz48_3, hfz48_0, hfz48_1, hfz48_2, hfz48_3⟩ := cz4f BK252.out
                have p264 : 0 ≤ (x12_3 : Int) := dt
                have q264 : x12_3 < (l0_3.length : Int) := dt
                obtain ⟨ad264, A264_3, c264_3, e264, hx264_0, hx264_1, hx264_2, hx264_3, hl264_3, hi264_3⟩ := at_T33 HR0_3.out x12_3 p264 q264
                cases e264
                replace hx264_0 := hcB HB.out hx264_0
                replace hx264_1 := hcB HB.out hx264_1
                replace hx264_2 := hcB HB.out hx264_2
                replace hx264_3 := hcB HB.out hx264_3
                have HR264_3 := Aside0.mk hi264_3
                have HC264_3 := Aside0.mk hl264_3
                clear hi264_3 hl264_3
                replace p264 := eq_true p264
                replace q264 := eq_true q264
                have p265 : 0 ≤ (1 : Int) := (by omega)
                have q265 : 1 < (((rd_T33 l0_3 x12_3).f3).length : Int) := dt
                obtain ⟨ad265, A265_3, c265_3, e265, hx265_0, hx265_1, hx265_2, hx265_3, hl265_3, hi265_3⟩ := at_T33 HR264_3.out 1 p265 q265
                cases e265
                (try simp only [show (1 : Int).toNat = 1 from rfl, Nat.reduceMul, Nat.reduceEqDiff, Go.Addr.add, ↓reduceIte] at hx265_0)
                (try simp only [show (1 : Int).toNat = 1 from rfl, Nat.reduceMul, Nat.reduceEqDiff, Go.Addr.add, ↓reduceIte] at hx265_1)
                (try simp only [show (1 : Int).toNat = 1 from rfl, Nat.reduceMul, Nat.reduceEqDiff, Go.Addr.add, ↓reduceIte] at hx265_2)
                (try simp only [show (1 : Int).toNat = 1 from rfl, Nat.reduceMul, Nat.reduceEqDiff, Go.Addr.add, ↓reduceIte] at hx265_3)
                have qi265 : (1 < ((rd_T33 l0_3 x12_3).f3).length) = True := eq_true (by omega)
                (try rw [show ((1 : Int)).toNat = 1 from rfl] at hx265_0)
                (try rw [show 1 * 4 = 4 from rfl] at hx265_0)
                (try rw [show ((1 : Int)).toNat = 1 from rfl] at hx265_1)
                (try rw [show 1 * 4 = 4 from rfl] at hx265_1)
                (try rw [show ((1 : Int)).toNat = 1 from rfl] at hx265_2)
                (try rw [show 1 * 4 = 4 from rfl] at hx265_2)
                (try rw [show ((1 : Int)).toNat = 1 from rfl] at hx265_3)
                (try rw [show 1 * 4 = 4 from rfl] at hx265_3)
                replace hx265_0 := hcB HB.out hx265_0
                replace hx265_1 := hcB HB.out hx265_1
                replace hx265_2 := hcB HB.out hx265_2
                replace hx265_3 := hcB HB.out hx265_3
                have HR265_3 := Aside0.mk hi265_3
                have HC265_3 := Aside0.mk hl265_3
                clear hi265_3 hl265_3
                replace p265 := eq_true p265
                replace q265 := eq_true q265
                go_wp2
                go_roundg k3
                case measure => have := HJ12.out; have := HJ24.out; have := HK3.out; omega
                case rel => exact ⟨(wrap64 (x12_3 + 1)), rq, H', ⟨by have := HJ12.out; have := HJ24.out; have := HK3.out; omega⟩, ⟨rU HO_11.out⟩, ⟨bU BK252.out⟩, ⟨bl⟩⟩
              ·rw [if_neg c35] at H
               exact absurd H (by simp)
             ·rw [if_neg c34] at H
              exact absurd H (by simp)
            ·rw [if_neg c33] at H
             exact absurd H (by simp)
           ·exact absurd ((Option.some.inj H).trans HR_.out) (by decide)
     ·obtain ⟨t259, A49, H⟩ := oB H
      try dsimp only at H
      obtain rfl := Option.some.inj H
      go_wp2_with (first | (refine gF 11 40 Tryd.func11 #[] rfl rfl ?_; (with_reducible refine (incunablelaw25_Sane.calls kj12  t259 _ (TIs.on HTI) A49.out).mono ?_); rintro e w50 ⟨rfl, hb⟩; refine ⟨_, rfl, ?_⟩; have n_ := aC (blk_below (bU BK252.out) hb) (aE (bs hb)); clear BK252 HB; obtain ⟨BK252, HB⟩ := n_))
      go_ret
      exact ⟨re, bl⟩
def Good33 : Nat → S33 → Prop
 | 0, _ => False
 | n + 1, x => ((Lit.int .i64 x.f0).wf = true) ∧ (x.f1.size ≤ 140737488351232) ∧ ((Lit.int .i64 x.f2).wf = true) ∧ (x.f3.length ≤ 9223372036854775807 ∧ x.f3.length * 56 ≤ 140737488351232 ∧ ∀ y ∈ x.f3, Good33 n y)
def incunablelaw25_NoteHits.Pure : Prop := ∀ (a0_0 : Int) (a0_1 : ByteArray) (a0_2 : Int) (l0_3 : List (S33)) (a1 : Int) (a2 : Int), ((Lit.int .i64 a0_0).wf = true) → (a0_1.size ≤ 140737488351232) → ((Lit.int .i64 a0_2).wf = true) → (l0_3.length ≤ 9223372036854775807 ∧ l0_3.length * 56 ≤ 140737488351232 ∧ ∀ y0_ ∈ l0_3, ∃ n_, Good33 n_ y0_) → ((Lit.int .i64 a1).wf = true) → ((Lit.int .i64 a2).wf = true) → ∃ k, incunablelaw25_NoteHits.f k a0_0 a0_1 a0_2 l0_3 a1 a2 = some true
theorem incunablelaw25_NoteHits.walk (P : incunablelaw25_NoteHits.Pure) (a0_0 : Int) (a0_1 : ByteArray) (a0_2 : Int) (A0_3 : Option Addr) (c0_3 : Nat) (l0_3 : List (S33)) (a1 : Int) (a2 : Int) (w : World) (hT0 : TIs w) (hr0_3 : Kd.C k33 w A0_3 l0_3.length l0_3) (hc0_3 : l0_3.length ≤ c0_3) (g0_0 : (Lit.int .i64 a0_0).wf = true) (g0_1 : a0_1.size ≤ 140737488351232) (g0_2 : (Lit.int .i64 a0_2).wf = true) (g0_3 : l0_3.length ≤ 9223372036854775807 ∧ l0_3.length * 56 ≤ 140737488351232 ∧ ∀ y0_ ∈ l0_3, ∃ n_, Good33 n_ y0_) (g1 : (Lit.int .i64 a1).wf = true) (g2 : (Lit.int .i64 a2).wf = true) :
  Calls Tryd.prog 5 #[.agg #[.int .i64 a0_0, .string a0_1, .int .i64 a0_2, .slice A0_3 l0_3.length c0_3], .int .i64 a1, .int .i64 a2] w fun e w' => e = .returned (.bool true) ∧ Below w.heap.size w w' := by
 obtain ⟨k, h⟩ := P a0_0 a0_1 a0_2 l0_3 a1 a2 g0_0 g0_1 g0_2 g0_3 g1 g2
 refine (incunablelaw25_NoteHits.calls k a0_0 a0_1 a0_2 A0_3 c0_3 l0_3 a1 a2 true w hT0 hr0_3 hc0_3 h rfl).mono ?_
 rintro e w' ⟨rfl, hd⟩
 exact ⟨rfl, hd⟩
end Go.Proofs.YtacdchogjpeffaaDoor.PNoteHits
