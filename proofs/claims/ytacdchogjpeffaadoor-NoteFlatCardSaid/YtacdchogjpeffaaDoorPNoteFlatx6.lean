-- printed (wip/tools/myprint.py)
import Derived.Test.YtacdchogjpeffaaDoorPNoteFlatx0
import Derived.Test.YtacdchogjpeffaaDoorPNoteFlatx1
import Derived.Test.YtacdchogjpeffaaDoorPNoteFlatx2
import Derived.Test.YtacdchogjpeffaaDoorPNoteFlatx3
import Derived.Test.YtacdchogjpeffaaDoorPNoteFlatx4
import Derived.Test.YtacdchogjpeffaaDoorPNoteFlatx5
namespace Go.Proofs.YtacdchogjpeffaaDoor.PNoteFlat
open Go.RowKit Go.Proofs.YtacdchogjpeffaaDoorW.PrintWords Go.Proofs.YtacdchogjpeffaaDoorW.PrintLast Go.Proofs.YtacdchogjpeffaaDoorW.PrintMore
attribute [local go_sem] max2_int min2_int max_two min_two max_three min_three max_four min_four
set_option linter.unusedVariables false
set_option linter.unusedSimpArgs false
def incunableref01_SameInts.l0 : Nat → List Int → List Int → Int → Option (Bool)
 | 0, _, _, _ => none
 | k + 1, x0, x1, x5 => if x5 < (x0.length : Int) then (if 0 ≤ x5 then (if x5 < (x1.length : Int) then (if (rd x0 x5) = (rd x1 x5) then (incunableref01_SameInts.l0 k x0 x1 (wrap64 (x5 + 1))) else (some false)) else (none)) else (none)) else (some true)
def incunableref01_SameInts.f (k : Nat) (l0 : List Int) (l1 : List Int) : Option (Bool) := if (l0.length : Int) = (l1.length : Int) then (incunableref01_SameInts.l0 k l0 l1 0) else (some false)
theorem incunableref01_SameInts.mono_l : ∀ k, (∀ y0 y1 y2, LeO (incunableref01_SameInts.l0 k y0 y1 y2) (incunableref01_SameInts.l0 (k + 1) y0 y1 y2))
 | 0 => fun _ _ _ r h => by simp [incunableref01_SameInts.l0] at h
 | k + 1 => by
  have ih0 := incunableref01_SameInts.mono_l k
  ·intro y0 y1 y2
   unfold incunableref01_SameInts.l0
   repeat' first
   | (with_reducible exact ih0 _ _ _)
   | (with_reducible first | exact LeO.refl _ | exact LeO.none _ | refine LeO.ite ?_ ?_ | refine LeO.bind ?_ (fun _ => ?_))
theorem incunableref01_SameInts.mono : ∀ a0 a1 k, LeO (incunableref01_SameInts.f k a0 a1) (incunableref01_SameInts.f (k + 1) a0 a1) := by
 intro a0 a1 k
 have ih0 := incunableref01_SameInts.mono_l k
 unfold incunableref01_SameInts.f
 repeat' first
   | (with_reducible exact ih0 _ _ _)
   | (with_reducible first | exact LeO.refl _ | exact LeO.none _ | refine LeO.ite ?_ ?_ | refine LeO.bind ?_ (fun _ => ?_))
set_option maxHeartbeats 8000000 in
set_option maxRecDepth 100000 in
theorem incunableref01_SameInts.calls (k : Nat) (A0 : Option Addr) (c0 : Nat) (l0 : List Int) (A1 : Option Addr) (c1 : Nat) (l1 : List Int) (r : Bool) (w : World) (hr0 : Kd.C (Kd.int .i64) w A0 l0.length l0) (hc0 : l0.length ≤ c0) (hr1 : Kd.C (Kd.int .i64) w A1 l1.length l1) (hc1 : l1.length ≤ c1) (h : incunableref01_SameInts.f k l0 l1 = some r) :
  Calls Tryd.prog 15 #[.slice A0 l0.length c0, .slice A1 l1.length c1] w fun e w' => e = .returned (.bool r) ∧ Drawn0 w w' := by
 have HR0 := Aside0.mk hr0
 have HC0 := Aside0.mk hc0
 clear hr0 hc0
 have HR1 := Aside0.mk hr1
 have HC1 := Aside0.mk hc1
 clear hr1 hc1
 have H := h
 unfold incunableref01_SameInts.f at H
 clear h
 by_cases c3 : (l0.length : Int) = (l1.length : Int)
 ·rw [if_pos c3] at H
  have c3b0 := beq_iff_eq.mpr c3
  have c3b1 := bne_eq_false_iff_eq.mpr c3
  have c3b2 : (l0.length == l1.length) = true := by first | simpa using c3 | (simp at c3 ⊢; omega)
  clear c3
  have H' := Aside0.mk H
  clear H
  go_enter Tryd.func15, Tryd.ntmps15
  go_wp2
  go_loopg [5] k (fun kq v5 w' => ∃ (x5_1 : Int), v5 = .int .i64 x5_1 ∧ Aside0 (incunableref01_SameInts.l0 kq l0 l1 x5_1 = some r) ∧ Aside0 (kq ≤ k) ∧ Drawn0 w w')
  case atStart => exact ⟨(0), rq, H', ⟨Nat.le_refl _⟩, by repeat (first | exact Drawn0.refl _ | apply Drawn0.step)⟩
  case round =>
   clear H'
   try clear c1
   obtain ⟨x5_1, rfl, HA, HK1, ⟨m1, rfl⟩⟩ := hrel
   cases gk with
   | zero => exact absurd HA.out (by simp [incunableref01_SameInts.l0])
   | succ k1 =>
    have H := HA.out
    clear HA
    simp only [incunableref01_SameInts.l0] at H
    rcases iL H with H1 | H1 <;> clear H <;> obtain ⟨H, c4b0⟩ := H1
    ·by_cases c5 : 0 ≤ x5_1
     ·rw [if_pos c5] at H
      have c5b0 := decide_eq_true c5
      clear c5
      by_cases c6 : x5_1 < (l1.length : Int)
      ·rw [if_pos c6] at H
       have c6b0 := decide_eq_true c6
       clear c6
       rcases iE H with H1 | H1 <;> clear H <;> obtain ⟨H, c7b0, c7b1, c7⟩ := H1
       ·have H' := Aside0.mk H
        clear H
        have p140 : 0 ≤ (x5_1 : Int) := dt
        have q140 : x5_1 < (l0.length : Int) := dt
        obtain ⟨ad140, e140, hx140_0⟩ := Kd.at_int HR0.out x5_1 p140 q140
        cases e140
        replace p140 := eq_true p140
        replace q140 := eq_true q140
        have p141 : 0 ≤ (x5_1 : Int) := dt
        have q141 : x5_1 < (l1.length : Int) := dt
        obtain ⟨ad141, e141, hx141_0⟩ := Kd.at_int HR1.out x5_1 p141 q141
        cases e141
        replace p141 := eq_true p141
        replace q141 := eq_true q141
        go_wp2
        repeat (go_quiet (fail); try go_wp2)
        go_roundg k1
        case measure => have := HK1.out; omega
        case rel => exact ⟨(wrap64 (x5_1 + 1)), rq, H', ⟨by have := HK1.out; omega⟩, by repeat (first | exact Drawn0.refl _ | apply Drawn0.step)⟩
       ·obtain rfl := Option.some.inj H
        have p140 : 0 ≤ (x5_1 : Int) := dt
        have q140 : x5_1 < (l0.length : Int) := dt
        obtain ⟨ad140, e140, hx140_0⟩ := Kd.at_int HR0.out x5_1 p140 q140
        cases e140
        replace p140 := eq_true p140
        replace q140 := eq_true q140
        have p141 : 0 ≤ (x5_1 : Int) := dt
        have q141 : x5_1 < (l1.length : Int) := dt
        obtain ⟨ad141, e141, hx141_0⟩ := Kd.at_int HR1.out x5_1 p141 q141
        cases e141
        replace p141 := eq_true p141
        replace q141 := eq_true q141
        go_wp2
        repeat (go_quiet (fail); try go_wp2)
        go_ret
        exact ⟨by first | rfl | (simp; done) | (simp [*]; done), by repeat (first | exact Drawn0.refl _ | apply Drawn0.step)⟩
      ·rw [if_neg c6] at H
       exact absurd H (by simp)
     ·rw [if_neg c5] at H
      exact absurd H (by simp)
    ·obtain rfl := Option.some.inj H
     go_wp2
     go_ret
     exact ⟨by first | rfl | (simp; done) | (simp [*]; done), by repeat (first | exact Drawn0.refl _ | apply Drawn0.step)⟩
 ·rw [if_neg c3] at H
  have c3b0 := beq_eq_false_iff_ne.mpr c3
  have c3b1 := bne_iff_ne.mpr c3
  have c3b2 : (l0.length == l1.length) = false := by first | simpa using c3 | (simp at c3 ⊢; omega)
  obtain rfl := Option.some.inj H
  go_enter Tryd.func15, Tryd.ntmps15
  go_wp2
  go_ret
  exact ⟨by first | rfl | (simp; done) | (simp [*]; done), by repeat (first | exact Drawn0.refl _ | apply Drawn0.step)⟩
def incunablelaw25_NoteFlat.f (k : Nat) (l0 : List (S61)) : Option (Bool) := (incunablelaw25_Heavy.f k l0).bind fun t142 => (if t142 = true then ((incunablelaw25_Sane.f k).bind fun t143 => (some t143)) else ((note_Flat.f k l0).bind fun bt144 => ((incunableref25_Flat.f k l0).bind fun bt151 => (if bt144.2.2 = bt151.2.2 then ((incunableref25_SameOutlines.f k bt144.1 bt151.1).bind fun t158 => (if t158 = true then ((incunableref01_SameInts.f k bt144.2.1 bt151.2.1).bind fun t159 => (if t159 = true then ((incunablelaw25_Sane.f k).bind fun t160 => (some t160)) else (some false))) else (some false))) else (some false)))))
theorem incunablelaw25_NoteFlat.mono : ∀ a0 k, LeO (incunablelaw25_NoteFlat.f k a0) (incunablelaw25_NoteFlat.f (k + 1) a0) := by
 intro a0 k
 unfold incunablelaw25_NoteFlat.f
 repeat' first
   | (with_reducible exact incunablelaw25_Heavy.mono _ _)
   | (with_reducible exact incunablelaw25_Sane.mono _)
   | (with_reducible exact incunableref01_SameInts.mono _ _ _)
   | (with_reducible exact incunableref25_Flat.mono _ _)
   | (with_reducible exact incunableref25_SameOutlines.mono _ _ _)
   | (with_reducible exact note_Flat.mono _ _)
   | (with_reducible first | exact LeO.refl _ | exact LeO.none _ | refine LeO.ite ?_ ?_ | refine LeO.bind ?_ (fun _ => ?_))
set_option maxHeartbeats 8000000 in
set_option maxRecDepth 100000 in
theorem incunablelaw25_NoteFlat.calls (k : Nat) (A0 : Option Addr) (c0 : Nat) (l0 : List (S61)) (r : Bool) (w : World) (hT0 : TIs w) (hr0 : Kd.C k61 w A0 l0.length l0) (hc0 : l0.length ≤ c0) (h : incunablelaw25_NoteFlat.f k l0 = some r) (hr_ : r = true) :
  Calls Tryd.prog 3 #[.slice A0 l0.length c0] w fun e w' => e = .returned (.bool r) ∧ Below w.heap.size w w' := by
 have HTI := Aside0.mk hT0
 clear hT0
 have HR_ := Aside0.mk hr_
 clear hr_
 have HR0 := Aside0.mk hr0
 have HC0 := Aside0.mk hc0
 clear hr0 hc0
 have HB := Aside0.mk (Below.refl w.heap.size w)
 have H := h
 unfold incunablelaw25_NoteFlat.f at H
 clear h
 obtain ⟨t142, A2, H⟩ := oB H
 try dsimp only at H
 by_cases c3 : t142 = true
 ·subst c3
  rw [if_pos rfl] at H
  obtain ⟨t143, A4, H⟩ := oB H
  try dsimp only at H
  obtain rfl := Option.some.inj H
  go_enter Tryd.func3, Tryd.ntmps3
  go_wp2_with (first | (refine gF 10 10 Tryd.func10 #[.slice A0 l0.length c0] rfl rfl ?_; (with_reducible refine (incunablelaw25_Heavy.calls k _ _ l0 true _ ?side1 ?side2 A2.out).mono ?_); (case side1 => exact cU HR0.out); (case side2 => exact HC0.out); rintro e w5 ⟨rfl, hb⟩; refine ⟨_, rfl, ?_⟩; have n_ := aE (bs hb); clear HB; have HB := n_; clear n_) | (refine gF 11 11 Tryd.func11 #[] rfl rfl ?_; (with_reducible refine (incunablelaw25_Sane.calls k  t143 _ (TIs.on HTI) A4.out).mono ?_); rintro e w6 ⟨rfl, hb⟩; refine ⟨_, rfl, ?_⟩; have n_ := aE (bs hb); clear HB; have HB := n_; clear n_))
  go_ret
  exact ⟨re, bl⟩
 ·replace c3 := Bool.eq_false_iff.mpr c3
  subst c3
  rw [if_neg Bool.false_ne_true] at H
  obtain ⟨⟨t144, t145, t146⟩, A7, H⟩ := oB H
  try dsimp only at H
  obtain ⟨⟨t151, t152, t153⟩, A8, H⟩ := oB H
  try dsimp only at H
  rcases iE H with H1 | H1 <;> clear H <;> obtain ⟨H, c9b0, c9b1, c9⟩ := H1
  ·obtain ⟨t158, A10, H⟩ := oB H
   try dsimp only at H
   by_cases c11 : t158 = true
   ·subst c11
    rw [if_pos rfl] at H
    obtain ⟨t159, A12, H⟩ := oB H
    try dsimp only at H
    by_cases c13 : t159 = true
    ·subst c13
     rw [if_pos rfl] at H
     obtain ⟨t160, A14, H⟩ := oB H
     try dsimp only at H
     obtain rfl := Option.some.inj H
     go_enter Tryd.func3, Tryd.ntmps3
     go_wp2_with (first | (refine gF 10 10 Tryd.func10 #[.slice A0 l0.length c0] rfl rfl ?_; (with_reducible refine (incunablelaw25_Heavy.calls k _ _ l0 false _ ?side1 ?side2 A2.out).mono ?_); (case side1 => exact cU HR0.out); (case side2 => exact HC0.out); rintro e w15 ⟨rfl, hb⟩; refine ⟨_, rfl, ?_⟩; have n_ := aE (bs hb); clear HB; have HB := n_; clear n_) | (refine gF 12 14 Tryd.func12 #[.slice A0 l0.length c0] rfl rfl ?_; (with_reducible refine (note_Flat.calls k _ _ l0 t144 t145 t146 _ ?side1 ?side2 A7.out).mono ?_); (case side1 => exact cU (Kd.C_below HR0.out HB.out)); (case side2 => exact HC0.out); rintro e w16 ⟨v147, v149, rfl, ho0, ho1, hb⟩; refine ⟨_, rfl, ?_⟩; have n_ := aC (Kd.R_lower ho0 bz) (aC (Kd.R_lower ho1 bz) (aE (bs hb))); clear HB; obtain ⟨HO148, HO150, HB⟩ := n_) | (refine gF 13 20 Tryd.func13 #[.slice A0 l0.length c0] rfl rfl ?_; (with_reducible refine (incunableref25_Flat.calls k _ _ l0 t151 t152 t153 _ ?side1 ?side2 A8.out).mono ?_); (case side1 => exact cU (Kd.C_below HR0.out HB.out)); (case side2 => exact HC0.out); rintro e w17 ⟨v154, v156, rfl, ho0, ho1, hb⟩; refine ⟨_, rfl, ?_⟩; have n_ := aC (Kd.R_elder' (rU HO148.out) (Kd.R_base ho0) hb) (aC (Kd.R_elder' (rU HO150.out) (Kd.R_base ho1) hb) (aC (Kd.R_lower (Kd.R_new' ho0 (Kd.R_lt (rU HO148.out))) bz) (aC (Kd.R_lower (Kd.R_new' ho1 (Kd.R_lt (rU HO150.out))) bz) (aE (bs hb))))); clear HO148 HO150 HB; obtain ⟨HO148, HO150, HO155, HO157, HB⟩ := n_; obtain ⟨Ao18, co18, eo18⟩ := Kd.R_slice HO148.out; subst eo18; obtain ⟨Ao19, co19, eo19⟩ := Kd.R_slice HO155.out; subst eo19) | (go_at_call 14; (with_reducible refine (incunableref25_SameOutlines.calls k _ _ t144 _ _ t151 true _ ?side1 ?side2 ?side3 ?side4 A10.out).mono ?_); (case side1 => exact cU (Kd.R_reads' HO148.out).2.2); (case side2 => exact (Kd.R_reads' HO148.out).2.1); (case side3 => exact cU (Kd.R_reads' HO155.out).2.2); (case side4 => exact (Kd.R_reads' HO155.out).2.1); rintro e w20 ⟨rfl, hb⟩; have n_ := aC (Kd.R_below (rU HO148.out) hb) (aC (Kd.R_below (rU HO150.out) hb) (aC (Kd.R_below (rU HO155.out) hb) (aC (Kd.R_below (rU HO157.out) hb) (aE (bs hb))))); clear HO148 HO150 HO155 HO157 HB; obtain ⟨HO148, HO150, HO155, HO157, HB⟩ := n_; obtain ⟨Ao21, co21, eo21⟩ := Kd.R_slice HO150.out; subst eo21; obtain ⟨Ao22, co22, eo22⟩ := Kd.R_slice HO157.out; subst eo22) | (go_at_call 15; (with_reducible refine (incunableref01_SameInts.calls k _ _ t145 _ _ t152 true _ ?side1 ?side2 ?side3 ?side4 A12.out).mono ?_); (case side1 => exact cU (Kd.R_reads' HO150.out).2.2); (case side2 => exact (Kd.R_reads' HO150.out).2.1); (case side3 => exact cU (Kd.R_reads' HO157.out).2.2); (case side4 => exact (Kd.R_reads' HO157.out).2.1); rintro e w' ⟨rfl, ⟨nd, rfl⟩⟩) | (go_at_call 11; (with_reducible refine (incunablelaw25_Sane.calls k  t160 _ (TIs.on HTI) A14.out).mono ?_); rintro e w23 ⟨rfl, hb⟩; have n_ := aC (Kd.R_below (rU HO148.out) hb) (aC (Kd.R_below (rU HO150.out) hb) (aC (Kd.R_below (rU HO155.out) hb) (aC (Kd.R_below (rU HO157.out) hb) (aE (bs hb))))); clear HO148 HO150 HO155 HO157 HB; obtain ⟨HO148, HO150, HO155, HO157, HB⟩ := n_))
     go_ret
     exact ⟨re, bl⟩
    ·replace c13 := Bool.eq_false_iff.mpr c13
     subst c13
     rw [if_neg Bool.false_ne_true] at H
     exact absurd ((Option.some.inj H).trans HR_.out) (by decide)
   ·replace c11 := Bool.eq_false_iff.mpr c11
    subst c11
    rw [if_neg Bool.false_ne_true] at H
    exact absurd ((Option.some.inj H).trans HR_.out) (by decide)
  ·exact absurd ((Option.some.inj H).trans HR_.out) (by decide)
def Good61 : Nat → S61 → Prop
 | 0, _ => False
 | n + 1, x => (x.f0.size ≤ 140737488351232) ∧ ((Lit.int .i64 x.f1).wf = true) ∧ (x.f2.length ≤ 9223372036854775807 ∧ x.f2.length * 48 ≤ 140737488351232 ∧ ∀ y ∈ x.f2, Good61 n y)
def incunablelaw25_NoteFlat.Pure : Prop := ∀ (l0 : List (S61)), (l0.length ≤ 9223372036854775807 ∧ l0.length * 48 ≤ 140737488351232 ∧ ∀ y0_ ∈ l0, ∃ n_, Good61 n_ y0_) → ∃ k, incunablelaw25_NoteFlat.f k l0 = some true
theorem incunablelaw25_NoteFlat.walk (P : incunablelaw25_NoteFlat.Pure) (A0 : Option Addr) (c0 : Nat) (l0 : List (S61)) (w : World) (hT0 : TIs w) (hr0 : Kd.C k61 w A0 l0.length l0) (hc0 : l0.length ≤ c0) (g0 : l0.length ≤ 9223372036854775807 ∧ l0.length * 48 ≤ 140737488351232 ∧ ∀ y0_ ∈ l0, ∃ n_, Good61 n_ y0_) :
  Calls Tryd.prog 3 #[.slice A0 l0.length c0] w fun e w' => e = .returned (.bool true) ∧ Below w.heap.size w w' := by
 obtain ⟨k, h⟩ := P l0 g0
 refine (incunablelaw25_NoteFlat.calls k A0 c0 l0 true w hT0 hr0 hc0 h rfl).mono ?_
 rintro e w' ⟨rfl, hd⟩
 exact ⟨rfl, hd⟩
end Go.Proofs.YtacdchogjpeffaaDoor.PNoteFlat
