-- printed (wip/tools/myprint.py)
import Derived.Test.YtknclbodinfbeaaDoorPRunsSamex0
import Derived.Test.YtknclbodinfbeaaDoorPRunsSamex7
import Derived.Test.YtknclbodinfbeaaDoorPRunsSamex13
namespace Go.Proofs.YtknclbodinfbeaaDoor.PRunsSame
open Go.RowKit Go.Proofs.YtknclbodinfbeaaDoorW.PrintWords Go.Proofs.YtknclbodinfbeaaDoorW.PrintLast Go.Proofs.YtknclbodinfbeaaDoorW.PrintMore
attribute [local go_sem] yf yc yD yE xV xU ye yh
set_option linter.unusedVariables false
set_option linter.unusedSimpArgs false
def vJ.j0 : Nat → List Int → Int → Int → Int → Int → Bool → Option (ByteArray × List Int × Int × Int)
 | 0, _, _, _, _, _, _ => none
 | k + 1, x1, x2, x3, x11, x12, x43 => if x43 = true then ((xY.f x12).bind fun t437 => ((xE.f x12).bind fun t438 => ((vz.f k t438).bind fun t439 => (some (t437, t439, x11, wrap64 (1 - x3)))))) else ((vC.f k x1 x11 x3).bind fun t442 => ((vz.f k (⟨#[48, 48, 49]⟩ : ByteArray)).bind fun t443 => ((wo.f k (wrap64 (x11 - (mx x2 0))) x3).bind fun t446 => (if t443.length + t446.length < 140737488355328 then ((some (t443 ++ t446 : List Int)).bind fun y449 => ((wo.f k (wrap64 (t442 - x11)) (wrap64 (1 - x3))).bind fun t452 => (if y449.length + t452.length < 140737488355328 then (some ((⟨#[102, 108, 97, 116]⟩ : ByteArray), (y449 ++ t452), t442, x3)) else (none)))) else (none)))))
def vJ.f (k : Nat) (l0 : List Int) (l1 : List Int) (a2 : Int) (a3 : Int) : Option (ByteArray × List Int × Int × Int) := (vK.f k l0 a2 a3).bind fun t431 => ((vC.f k l0 t431 a3).bind fun t432 => ((vC.f k l1 a2 (wrap64 (1 - a3))).bind fun t433 => (if t432 < t433 then ((vz.f k (⟨#[48, 48, 48, 49]⟩ : ByteArray)).bind fun t434 => (some ((⟨#[112, 97, 115, 115]⟩ : ByteArray), t434, t432, a3))) else (if (wrap64 (t433 - t431)) ≥ (-3) then (vJ.j0 k l1 a2 a3 t433 (wrap64 (t433 - t431)) (decide ((wrap64 (t433 - t431)) ≤ 3))) else (vJ.j0 k l1 a2 a3 t433 (wrap64 (t433 - t431)) false)))))
theorem vJ.wj : ∀ k, (∀ y0 y1 y2 y3 y4 y5, vP (vJ.j0 k y0 y1 y2 y3 y4 y5) (vJ.j0 (k + 1) y0 y1 y2 y3 y4 y5))
 | 0 => fun _ _ _ _ _ _ r h => by simp [vJ.j0] at h
 | k + 1 => by
  have ih0 := vJ.wj k
  ·intro y0 y1 y2 y3 y4 y5
   unfold vJ.j0
   repeat' first
   | (with_reducible exact ih0 _ _ _ _ _ _)
   | (with_reducible exact wo.mono _ _ _)
   | (with_reducible exact vz.mono _ _)
   | (with_reducible exact vK.mono _ _ _ _)
   | (with_reducible exact vC.mono _ _ _ _)
   | (with_reducible first | exact vP.refl _ | exact vP.none _ | apply vP.ite | refine vP.bind ?_ fun _ => ?_)
theorem vJ.mono : ∀ a0 a1 a2 a3 k, vP (vJ.f k a0 a1 a2 a3) (vJ.f (k + 1) a0 a1 a2 a3) := by
 intro a0 a1 a2 a3 k
 have ih0 := vJ.wj k
 unfold vJ.f
 repeat' first
   | (with_reducible exact ih0 _ _ _ _ _ _)
   | (with_reducible exact wo.mono _ _ _)
   | (with_reducible exact vz.mono _ _)
   | (with_reducible exact vK.mono _ _ _ _)
   | (with_reducible exact vC.mono _ _ _ _)
   | (with_reducible first | exact vP.refl _ | exact vP.none _ | apply vP.ite | refine vP.bind ?_ fun _ => ?_)
set_option maxHeartbeats 8000000 in
set_option maxRecDepth 100000 in
theorem vJ.calls (k : Nat) (A0 : Option Addr) (c0 : Nat) (l0 : List Int) (A1 : Option Addr) (c1 : Nat) (l1 : List Int) (a2 : Int) (a3 : Int) (r1 : ByteArray) (r2 : List Int) (r3 : Int) (r4 : Int) (w : World) (hr0 : Kd.C (Kd.int .u8) w A0 l0.length l0) (hc0 : l0.length ≤ c0) (hr1 : Kd.C (Kd.int .u8) w A1 l1.length l1) (hc1 : l1.length ≤ c1) (h : vJ.f k l0 l1 a2 a3 = some (r1, r2, r3, r4)) :
  Calls Tryd.prog 44 #[.slice A0 l0.length c0, .slice A1 l1.length c1, .int .i64 a2, .int .i64 a3] w fun e w' => ∃ v1_ : Value, e = .returned (.agg #[.string r1, v1_, .int .i64 r3, .int .i64 r4]) ∧ Kd.R (Kd.int .u8) 5 w' w.heap.size (fun _ => True) v1_ r2 ∧ Below w.heap.size w w' := by
 have hu37 := Tryd.underlying37
 have HR0 := Aside0.mk hr0
 have HC0 := Aside0.mk hc0
 clear hr0 hc0
 have HR1 := Aside0.mk hr1
 have HC1 := Aside0.mk hc1
 clear hr1 hc1
 have HB := Aside0.mk (Below.refl w.heap.size w)
 have H := h
 unfold vJ.f at H
 clear h
 obtain ⟨t431, A5, H⟩ := oB H
 try dsimp only at H
 obtain ⟨t432, A6, H⟩ := oB H
 try dsimp only at H
 obtain ⟨t433, A7, H⟩ := oB H
 try dsimp only at H
 rcases iL H with H1 | H1 <;> clear H <;> obtain ⟨H, c8b0⟩ := H1
 ·obtain ⟨t434, A9, H⟩ := oB H
  try dsimp only at H
  simp only [Option.some.injEq, Prod.mk.injEq] at H
  obtain ⟨rfl, rfl, rfl, rfl⟩ := H
  go_enter Tryd.func44, Tryd.ntmps44
  go_wp2_with (first | ((with_reducible refine gd 8 rfl ?_); refine bx 8 #[.string (⟨#[]⟩ : ByteArray), .slice none 0 0, .int .i64 0, .int .i64 0] 37 rfl rfl ?_; intro gb430 hg w10 hbox hb; have n_ := aC (bs hb) (aC hbox (aC (gz hg) (aE (gz hg)))); clear HB; obtain ⟨HB, BK430, GW430, GE430⟩ := n_; clear hb hbox hg) | (refine gF 69 18 Tryd.func69 #[.slice A0 l0.length c0, .int .i64 a2, .int .i64 a3] rfl rfl ?_; (with_reducible refine (vK.calls k _ _ l0 a2 a3 t431 _ ?side1 ?side2 A5.out).mono ?_); (case side1 => exact cU (Kd.wO HR0.out HB.out)); (case side2 => exact HC0.out); rintro e w' ⟨rfl, ⟨nd, rfl⟩⟩; refine ⟨_, rfl, ?_⟩; (try (rw [yL w10]; generalize hq_ : World.drewN w10 _ = w10; have n0_ : Aside0 (w10.heap[gb430]? = some (.cells #[.string (⟨#[]⟩ : ByteArray), .slice none 0 0, .int .i64 0, .int .i64 0] 37 (0, 0))) := ⟨by rw [← hq_]; exact (bU BK430.out)⟩; have n1_ : Aside0 (Below w.heap.size w w10) := ⟨by rw [← hq_]; exact bl⟩; clear BK430 HB hq_; have BK430 := n0_; have HB := n1_; clear n0_ n1_))) | (refine gF 70 22 Tryd.func70 #[.slice A0 l0.length c0, .int .i64 t431, .int .i64 a3] rfl rfl ?_; (with_reducible refine (vC.calls k _ _ l0 t431 a3 t432 _ ?side1 ?side2 A6.out).mono ?_); (case side1 => exact cU (Kd.wO HR0.out HB.out)); (case side2 => exact HC0.out); rintro e w' ⟨rfl, ⟨nd, rfl⟩⟩; refine ⟨_, rfl, ?_⟩; (try (rw [yL w10]; generalize hq_ : World.drewN w10 _ = w10; have n0_ : Aside0 (w10.heap[gb430]? = some (.cells #[.string (⟨#[]⟩ : ByteArray), .slice none 0 0, .int .i64 0, .int .i64 0] 37 (0, 0))) := ⟨by rw [← hq_]; exact (bU BK430.out)⟩; have n1_ : Aside0 (Below w.heap.size w w10) := ⟨by rw [← hq_]; exact bl⟩; clear BK430 HB hq_; have BK430 := n0_; have HB := n1_; clear n0_ n1_))) | (refine gF 70 27 Tryd.func70 #[.slice A1 l1.length c1, .int .i64 a2, .int .i64 (wrap64 (1 - a3))] rfl rfl ?_; (with_reducible refine (vC.calls k _ _ l1 a2 (wrap64 (1 - a3)) t433 _ ?side1 ?side2 A7.out).mono ?_); (case side1 => exact cU (Kd.wO HR1.out HB.out)); (case side2 => exact HC1.out); rintro e w' ⟨rfl, ⟨nd, rfl⟩⟩; refine ⟨_, rfl, ?_⟩; (try (rw [yL w10]; generalize hq_ : World.drewN w10 _ = w10; have n0_ : Aside0 (w10.heap[gb430]? = some (.cells #[.string (⟨#[]⟩ : ByteArray), .slice none 0 0, .int .i64 0, .int .i64 0] 37 (0, 0))) := ⟨by rw [← hq_]; exact (bU BK430.out)⟩; have n1_ : Aside0 (Below w.heap.size w w10) := ⟨by rw [← hq_]; exact bl⟩; clear BK430 HB hq_; have BK430 := n0_; have HB := n1_; clear n0_ n1_))) | (refine gF 71 31 Tryd.func71 #[.string (⟨#[48, 48, 48, 49]⟩ : ByteArray)] rfl rfl ?_; (with_reducible refine (vz.calls k (⟨#[48, 48, 48, 49]⟩ : ByteArray) t434 _ A9.out).mono ?_); rintro e w11 ⟨v435, rfl, ho0, hb⟩; refine ⟨_, rfl, ?_⟩; have n_ := aC (Kd.vX ho0 bz) (aC (vu (bU BK430.out) hb) (aE (bs hb))); clear BK430 HB; obtain ⟨HO436, BK430, HB⟩ := n_; obtain ⟨Ao12, co12, eo12⟩ := Kd.wq HO436.out; subst eo12; obtain ⟨hcz13_0, hcz13_1, hcz13_2, hcz13_3, hfz13_0, hfz13_1, hfz13_2, hfz13_3⟩ := xC BK430.out))
  refine bodyPost_ret (results_cell_row rfl _ _ gb430 37 #[.string (⟨#[112, 97, 115, 115]⟩ : ByteArray), .slice Ao12 t434.length co12, .int .i64 t432, .int .i64 a3] (0, 0) _ rfl (by (with_reducible repeat first | apply vl | apply vn | apply vm); refine vv (cs := #[.string (⟨#[112, 97, 115, 115]⟩ : ByteArray), .slice Ao12 t434.length co12, .int .i64 t432, .int .i64 0]) ?_ 3 _ rfl; (with_reducible repeat first | apply vl | apply vn | apply vm); refine vv (cs := #[.string (⟨#[112, 97, 115, 115]⟩ : ByteArray), .slice Ao12 t434.length co12, .int .i64 0, .int .i64 0]) ?_ 2 _ rfl; (with_reducible repeat first | apply vl | apply vn | apply vm); refine vv (cs := #[.string (⟨#[112, 97, 115, 115]⟩ : ByteArray), .slice none 0 0, .int .i64 0, .int .i64 0]) ?_ 1 _ rfl; (with_reducible repeat first | apply vl | apply vn | apply vm); refine vv (cs := #[.string (⟨#[]⟩ : ByteArray), .slice none 0 0, .int .i64 0, .int .i64 0]) ?_ 0 _ rfl; (with_reducible repeat first | apply vl | apply vn | apply vm); exact BK430.out) Tryd.underlying37 rfl (by kernel_rfl)) rfl ?_
  exact ⟨_, re, rU (Kd.vY (Kd.wI (p := ⟨gb430, 3, none⟩) (Kd.wI (p := ⟨gb430, 2, none⟩) (Kd.wI (p := ⟨gb430, 1, none⟩) (Kd.wI (p := ⟨gb430, 0, none⟩) (Kd.xu HO436.out BK430.out (by decide)) (fun _ hk => hk.2) (.string (⟨#[112, 97, 115, 115]⟩ : ByteArray))) (fun _ hk => hk.2) (.slice Ao12 t434.length co12)) (fun _ hk => hk.2) (.int .i64 t432)) (fun _ hk => hk.2) (.int .i64 a3)) (fun _ hk => trivial)), bl⟩
 ·have HC14 := Aside0.mk H
  clear H
  go_enter Tryd.func44, Tryd.ntmps44
  go_upto_region 7 with (first | ((with_reducible refine gd 8 rfl ?_); refine bx 8 #[.string (⟨#[]⟩ : ByteArray), .slice none 0 0, .int .i64 0, .int .i64 0] 37 rfl rfl ?_; intro gb430 hg w15 hbox hb; have n_ := aC (bs hb) (aC hbox (aC (gz hg) (aE (gz hg)))); clear HB; obtain ⟨HB, BK430, GW430, GE430⟩ := n_; clear hb hbox hg) | (refine gF 69 18 Tryd.func69 #[.slice A0 l0.length c0, .int .i64 a2, .int .i64 a3] rfl rfl ?_; (with_reducible refine (vK.calls k _ _ l0 a2 a3 t431 _ ?side1 ?side2 A5.out).mono ?_); (case side1 => exact cU (Kd.wO HR0.out HB.out)); (case side2 => exact HC0.out); rintro e w' ⟨rfl, ⟨nd, rfl⟩⟩; refine ⟨_, rfl, ?_⟩) | (refine gF 70 22 Tryd.func70 #[.slice A0 l0.length c0, .int .i64 t431, .int .i64 a3] rfl rfl ?_; (with_reducible refine (vC.calls k _ _ l0 t431 a3 t432 _ ?side1 ?side2 A6.out).mono ?_); (case side1 => exact cU (Kd.wO HR0.out bl)); (case side2 => exact HC0.out); rintro e w' ⟨rfl, ⟨nd, rfl⟩⟩; refine ⟨_, rfl, ?_⟩) | (refine gF 70 27 Tryd.func70 #[.slice A1 l1.length c1, .int .i64 a2, .int .i64 (wrap64 (1 - a3))] rfl rfl ?_; (with_reducible refine (vC.calls k _ _ l1 a2 (wrap64 (1 - a3)) t433 _ ?side1 ?side2 A7.out).mono ?_); (case side1 => exact cU (Kd.wO HR1.out bl)); (case side2 => exact HC1.out); rintro e w' ⟨rfl, ⟨nd, rfl⟩⟩; refine ⟨_, rfl, ?_⟩))
  (try simp only [Act.put, List.setIfInBounds_toArray, List.set_cons_zero, List.set_cons_succ])
  go_cut [43] (fun v43 wc => ∃ (kq : Nat) (x43_13 : Bool), v43 = .bool x43_13 ∧ Aside0 (vJ.j0 kq l1 a2 a3 t433 (wrap64 (t433 - t431)) x43_13 = some (r1, r2, r3, r4)) ∧ Aside0 (kq ≤ k) ∧ Aside0 (wc.heap[gb430]? = some (.cells #[.string (⟨#[]⟩ : ByteArray), (.slice none 0 0), .int .i64 0, .int .i64 0] 37 (0, 0))) ∧ Aside0 (Below w.heap.size w wc))
  case first =>
   have H := HC14.out
   clear HC14
   rcases iL H with H1 | H1 <;> clear H <;> obtain ⟨H, c16b0⟩ := H1
   ·(first | rw [c16b0] | (simp only [xD, zm]; rw [c16b0]) | skip)
    have H' := Aside0.mk H
    clear H
    go_wp2
    go_meet
    case rel => exact ⟨_, (decide ((wrap64 (t433 - t431)) ≤ 3)), rq, H', ⟨by first | omega | exact Nat.le_refl _⟩, ⟨bU BK430.out⟩, ⟨bl⟩⟩
   ·(first | rw [c16b0] | (simp only [xD, zm]; rw [c16b0]) | skip)
    have H' := Aside0.mk H
    clear H
    go_wp2
    go_meet
    case rel => exact ⟨_, (false), rq, H', ⟨by first | omega | exact Nat.le_refl _⟩, ⟨bU BK430.out⟩, ⟨bl⟩⟩
  case rest =>
   clear HC14
   try clear c1
   obtain ⟨kq, x43_13, rfl, HA, HJ13, BK430, HB⟩ := hcut
   cases kq with
   | zero => exact absurd HA.out (by simp [vJ.j0])
   | succ kj13 =>
    have H := HA.out
    clear HA
    simp only [vJ.j0] at H
    by_cases c17 : x43_13 = true
    ·subst c17
     rw [if_pos rfl] at H
     obtain ⟨t437, A18, H⟩ := oB H
     try dsimp only at H
     obtain ⟨t438, A19, H⟩ := oB H
     try dsimp only at H
     obtain ⟨t439, A20, H⟩ := oB H
     try dsimp only at H
     simp only [Option.some.injEq, Prod.mk.injEq] at H
     obtain ⟨rfl, rfl, rfl, rfl⟩ := H
     go_wp2_with (first | (refine gF 72 45 Tryd.func72 #[.int .i64 (wrap64 (t433 - t431))] rfl rfl ?_; (with_reducible refine (xY.calls (wrap64 (t433 - t431)) t437 _ A18.out).mono ?_); rintro e w' ⟨rfl, ⟨nd, rfl⟩⟩; refine ⟨_, rfl, ?_⟩; (try (rw [yL wc]; generalize hq_ : World.drewN wc _ = wc; have n0_ : Aside0 (wc.heap[gb430]? = some (.cells #[.string (⟨#[]⟩ : ByteArray), .slice none 0 0, .int .i64 0, .int .i64 0] 37 (0, 0))) := ⟨by rw [← hq_]; exact (bU BK430.out)⟩; have n1_ : Aside0 (Below w.heap.size w wc) := ⟨by rw [← hq_]; exact bl⟩; clear BK430 HB hq_; have BK430 := n0_; have HB := n1_; clear n0_ n1_))) | (refine gF 73 47 Tryd.func73 #[.int .i64 (wrap64 (t433 - t431))] rfl rfl ?_; (with_reducible refine (xE.calls (wrap64 (t433 - t431)) t438 _ A19.out).mono ?_); rintro e w' ⟨rfl, ⟨nd, rfl⟩⟩; refine ⟨_, rfl, ?_⟩; (try (rw [yL wc]; generalize hq_ : World.drewN wc _ = wc; have n0_ : Aside0 (wc.heap[gb430]? = some (.cells #[.string (⟨#[]⟩ : ByteArray), .slice none 0 0, .int .i64 0, .int .i64 0] 37 (0, 0))) := ⟨by rw [← hq_]; exact (bU BK430.out)⟩; have n1_ : Aside0 (Below w.heap.size w wc) := ⟨by rw [← hq_]; exact bl⟩; clear BK430 HB hq_; have BK430 := n0_; have HB := n1_; clear n0_ n1_))) | (refine gF 71 48 Tryd.func71 #[.string t438] rfl rfl ?_; (with_reducible refine (vz.calls kj13 t438 t439 _ A20.out).mono ?_); rintro e w21 ⟨v440, rfl, ho0, hb⟩; refine ⟨_, rfl, ?_⟩; have n_ := aC (Kd.vX ho0 bz) (aC (vu (bU BK430.out) hb) (aE (bs hb))); clear BK430 HB; obtain ⟨HO441, BK430, HB⟩ := n_; obtain ⟨Ao22, co22, eo22⟩ := Kd.wq HO441.out; subst eo22; obtain ⟨hcz23_0, hcz23_1, hcz23_2, hcz23_3, hfz23_0, hfz23_1, hfz23_2, hfz23_3⟩ := xC BK430.out))
     refine bodyPost_ret (results_cell_row rfl _ _ gb430 37 #[.string t437, .slice Ao22 t439.length co22, .int .i64 t433, .int .i64 (wrap64 (1 - a3))] (0, 0) _ rfl (by (with_reducible repeat first | apply vl | apply vn | apply vm); refine vv (cs := #[.string t437, .slice Ao22 t439.length co22, .int .i64 t433, .int .i64 0]) ?_ 3 _ rfl; (with_reducible repeat first | apply vl | apply vn | apply vm); refine vv (cs := #[.string t437, .slice Ao22 t439.length co22, .int .i64 0, .int .i64 0]) ?_ 2 _ rfl; (with_reducible repeat first | apply vl | apply vn | apply vm); refine vv (cs := #[.string t437, .slice none 0 0, .int .i64 0, .int .i64 0]) ?_ 1 _ rfl; (with_reducible repeat first | apply vl | apply vn | apply vm); refine vv (cs := #[.string (⟨#[]⟩ : ByteArray), .slice none 0 0, .int .i64 0, .int .i64 0]) ?_ 0 _ rfl; (with_reducible repeat first | apply vl | apply vn | apply vm); exact BK430.out) Tryd.underlying37 rfl (by kernel_rfl)) rfl ?_
     exact ⟨_, re, rU (Kd.vY (Kd.wI (p := ⟨gb430, 3, none⟩) (Kd.wI (p := ⟨gb430, 2, none⟩) (Kd.wI (p := ⟨gb430, 1, none⟩) (Kd.wI (p := ⟨gb430, 0, none⟩) (Kd.xu HO441.out BK430.out (by decide)) (fun _ hk => hk.2) (.string t437)) (fun _ hk => hk.2) (.slice Ao22 t439.length co22)) (fun _ hk => hk.2) (.int .i64 t433)) (fun _ hk => hk.2) (.int .i64 (wrap64 (1 - a3)))) (fun _ hk => trivial)), bl⟩
    ·replace c17 := Bool.eq_false_iff.mpr c17
     subst c17
     rw [if_neg Bool.false_ne_true] at H
     obtain ⟨t442, A24, H⟩ := oB H
     try dsimp only at H
     obtain ⟨t443, A25, H⟩ := oB H
     try dsimp only at H
     obtain ⟨ji26, hji26⟩ : ∃ j_ : Int, (mx a2 0) = j_ := ⟨_, rfl⟩
     replace H : ((wo.f kj13 (wrap64 (t433 - (ji26))) a3).bind fun t446 => (if t443.length + t446.length < 140737488355328 then ((some (t443 ++ t446 : List Int)).bind fun y449 => ((wo.f kj13 (wrap64 (t442 - t433)) (wrap64 (1 - a3))).bind fun t452 => (if y449.length + t452.length < 140737488355328 then (some ((⟨#[102, 108, 97, 116]⟩ : ByteArray), (y449 ++ t452), t442, a3)) else (none)))) else (none))) = some (r1, r2, r3, r4) := by first | (rw [hji26] at H; exact H) | (simp only [hji26] at H ⊢; exact H)
     (try rw [hji26] at A24)
     (try rw [hji26] at A25)
     have hji26_ : (if a2 < 0 then 0 else a2) = ji26 := hji26
     obtain ⟨t446, A27, H⟩ := oB H
     try dsimp only at H
     by_cases c28 : t443.length + t446.length < 140737488355328
     ·rw [if_pos c28] at H
      have LMc28 := Aside0.mk c28
      clear c28
      obtain ⟨y449, hy_⟩ : ∃ y_ : List Int, y_ = (t443 ++ t446) := ⟨_, rfl⟩
      replace H : ((wo.f kj13 (wrap64 (t442 - t433)) (wrap64 (1 - a3))).bind fun t452 => (if y449.length + t452.length < 140737488355328 then (some ((⟨#[102, 108, 97, 116]⟩ : ByteArray), (y449 ++ t452), t442, a3)) else (none))) = some (r1, r2, r3, r4) := rh
      have Ny449 := aE hy_
      clear hy_
      obtain ⟨t452, A29, H⟩ := oB H
      try dsimp only at H
      by_cases c30 : y449.length + t452.length < 140737488355328
      ·rw [if_pos c30] at H
       have LMc30 := Aside0.mk c30
       clear c30
       obtain ⟨y455, hy_⟩ : ∃ y_ : List Int, y_ = (y449 ++ t452) := ⟨_, rfl⟩
       replace H : (some ((⟨#[102, 108, 97, 116]⟩ : ByteArray), y455, t442, a3)) = some (r1, r2, r3, r4) := rh
       have Ny455 := aE hy_
       clear hy_
       simp only [Option.some.injEq, Prod.mk.injEq] at H
       obtain ⟨rfl, rfl, rfl, rfl⟩ := H
       go_wp2_with (first | (refine gF 70 56 Tryd.func70 #[.slice A1 l1.length c1, .int .i64 t433, .int .i64 a3] rfl rfl ?_; (with_reducible refine (vC.calls kj13 _ _ l1 t433 a3 t442 _ ?side1 ?side2 A24.out).mono ?_); (case side1 => exact cU (Kd.wO HR1.out HB.out)); (case side2 => exact HC1.out); rintro e w' ⟨rfl, ⟨nd, rfl⟩⟩; refine ⟨_, rfl, ?_⟩; (try (rw [yL wc]; generalize hq_ : World.drewN wc _ = wc; have n0_ : Aside0 (wc.heap[gb430]? = some (.cells #[.string (⟨#[]⟩ : ByteArray), .slice none 0 0, .int .i64 0, .int .i64 0] 37 (0, 0))) := ⟨by rw [← hq_]; exact (bU BK430.out)⟩; have n1_ : Aside0 (Below w.heap.size w wc) := ⟨by rw [← hq_]; exact bl⟩; clear BK430 HB hq_; have BK430 := n0_; have HB := n1_; clear n0_ n1_))) | (refine gF 71 57 Tryd.func71 #[.string (⟨#[48, 48, 49]⟩ : ByteArray)] rfl rfl ?_; (with_reducible refine (vz.calls kj13 (⟨#[48, 48, 49]⟩ : ByteArray) t443 _ A25.out).mono ?_); rintro e w31 ⟨v444, rfl, ho0, hb⟩; refine ⟨_, rfl, ?_⟩; have n_ := aC (Kd.vX ho0 bz) (aC (vu (bU BK430.out) hb) (aE (bs hb))); clear BK430 HB; obtain ⟨HO445, BK430, HB⟩ := n_) | ((with_reducible refine gf 15 rfl ?_); refine qy (some 63) rfl rfl Tryd.func15 (by kernel_rfl) rfl #[.int .i64 (wrap64 (t433 - (ji26))), .int .i64 a3] rfl (by (try simp only [List.map_toArray, List.map_cons, List.map_nil]); first | done | (simp only [hji26]; rfl) | rfl | (simp only [List.length_drop, List.length_take]; rfl)) ?_; (with_reducible refine (wo.calls kj13 (wrap64 (t433 - (ji26))) a3 t446 _ A27.out).mono ?_); rintro e w32 ⟨v447, rfl, ho0, hb⟩; refine ⟨_, rfl, ?_⟩; have n_ := aC (Kd.R_elder' (rU HO445.out) (Kd.xi ho0) hb) (aC (Kd.vX (Kd.R_new' ho0 (Kd.xX (rU HO445.out))) bz) (aC (vu (bU BK430.out) hb) (aE (bs hb)))); clear HO445 BK430 HB; obtain ⟨HO445, HO448, BK430, HB⟩ := n_; obtain ⟨Ao34, co34, eo34⟩ := Kd.wq HO448.out; subst eo34) | ((with_reducible refine xb (b := .append) (xs := #[.tmp 57, .tmp 63]) rfl ?_); at_builtin; refine Kd.xW (Kd.int .u8) (w0 := w) w.heap.size rfl (.tmp 57) (.tmp 63) 22 5 (.int .u8 0) 1 rfl Tryd.underlying22 info5 rfl (by decide) (by omega) v444 t443 t446 _ _ _ (fun k_ => some k_ ≠ (.slice Ao34 t446.length co34 : Value).ownBlock) (fun _ => False) rfl rfl ?aO ?aR (fun _ _ h => h) (fun _ h => h.elim) ?aF ?aB ?aS ?aL ?_; (case aR => repeat (first | exact (Kd.R_reads' HO448.out).2.2 | (with_reducible refine Kd.yk ?_ _) | (with_reducible refine Kd.yj ?_ _) | (with_reducible refine Kd.yI ?_))); (case aB => exact bl); (case aF => exact (fun k_ hk => Kd.fresh' (Kd.xX (rU HO448.out)) k_ hk)); (case aO => exact (rU (Kd.vY HO445.out (fun _ hk => hk.2)))); (case aS => exact bz); (case aL => have := LMc28.out; omega); intro v450 w33 ho hb hg hat; rw [← Ny449.out] at ho; have n_ := aC (xx (bU BK430.out) hg (Kd.jh HO445.out BK430.out (by decide))) (aC (Kd.yU (ok := (fun _ => True)) (rU HO448.out) hg hat) (aC hb (aE ho))); clear BK430 HO448 HB HO445; obtain ⟨BK430, HO448, HB, HO451⟩ := n_; clear ho hb hg hat) | (refine gF 15 71 Tryd.func15 #[.int .i64 (wrap64 (t442 - t433)), .int .i64 (wrap64 (1 - a3))] rfl rfl ?_; (with_reducible refine (wo.calls kj13 (wrap64 (t442 - t433)) (wrap64 (1 - a3)) t452 _ A29.out).mono ?_); rintro e w35 ⟨v453, rfl, ho0, hb⟩; refine ⟨_, rfl, ?_⟩; have n_ := aC (Kd.R_elder' (rU HO448.out) (Kd.xi ho0) hb) (aC (Kd.R_elder' (rU HO451.out) (Kd.xi ho0) hb) (aC (Kd.vX (Kd.R_new' (Kd.R_new' ho0 (Kd.xX (rU HO448.out))) (Kd.xX (rU HO451.out))) bz) (aC (vu (bU BK430.out) hb) (aE (bs hb))))); clear HO448 HO451 BK430 HB; obtain ⟨HO448, HO451, HO454, BK430, HB⟩ := n_; obtain ⟨Ao37, co37, eo37⟩ := Kd.wq HO454.out; subst eo37) | ((with_reducible refine xb (b := .append) (xs := #[.tmp 65, .tmp 71]) rfl ?_); at_builtin; refine Kd.xW (Kd.int .u8) (w0 := w) w.heap.size rfl (.tmp 65) (.tmp 71) 22 5 (.int .u8 0) 1 rfl Tryd.underlying22 info5 rfl (by decide) (by omega) v450 y449 t452 _ _ _ (fun k_ => some k_ ≠ (.slice Ao34 t446.length co34 : Value).ownBlock ∧ some k_ ≠ (.slice Ao37 t452.length co37 : Value).ownBlock) (fun _ => False) rfl rfl ?aO ?aR (fun _ _ h => h) (fun _ h => h.elim) ?aF ?aB ?aS ?aL ?_; (case aR => repeat (first | exact (Kd.R_reads' HO454.out).2.2 | (with_reducible refine Kd.yk ?_ _) | (with_reducible refine Kd.yj ?_ _) | (with_reducible refine Kd.yI ?_))); (case aB => exact bl); (case aF => exact (fun k_ hk => ⟨Kd.fresh' (Kd.xX (rU HO448.out)) k_ hk, Kd.fresh' (Kd.xX (rU HO454.out)) k_ hk⟩)); (case aO => exact (rU HO451.out)); (case aS => exact bz); (case aL => have := LMc30.out; omega); intro v456 w36 ho hb hg hat; rw [← Ny455.out] at ho; have n_ := aC (xx (bU BK430.out) hg (Kd.jh HO451.out BK430.out (by decide))) (aC (Kd.yU (ok := (fun k_ => some k_ ≠ (.slice Ao37 t452.length co37 : Value).ownBlock)) (rU (Kd.vY HO448.out (fun _ hk => ⟨hk.2, hk.1.2⟩))) hg hat) (aC (Kd.yU (ok := (fun k_ => some k_ ≠ (.slice Ao34 t446.length co34 : Value).ownBlock)) (rU (Kd.vY HO454.out (fun _ hk => ⟨hk.1.2, hk.2⟩))) hg hat) (aC hb (aE ho)))); clear BK430 HO448 HO454 HB HO451; obtain ⟨BK430, HO448, HO454, HB, HO457⟩ := n_; clear ho hb hg hat; obtain ⟨Ao38, co38, eo38⟩ := Kd.wq HO457.out; subst eo38; obtain ⟨hcz39_0, hcz39_1, hcz39_2, hcz39_3, hfz39_0, hfz39_1, hfz39_2, hfz39_3⟩ := xC BK430.out))
       refine bodyPost_ret (results_cell_row rfl _ _ gb430 37 #[.string (⟨#[102, 108, 97, 116]⟩ : ByteArray), .slice Ao38 y455.length co38, .int .i64 t442, .int .i64 a3] (0, 0) _ rfl (by (with_reducible repeat first | apply vl | apply vn | apply vm); refine vv (cs := #[.string (⟨#[102, 108, 97, 116]⟩ : ByteArray), .slice Ao38 y455.length co38, .int .i64 t442, .int .i64 0]) ?_ 3 _ rfl; (with_reducible repeat first | apply vl | apply vn | apply vm); refine vv (cs := #[.string (⟨#[102, 108, 97, 116]⟩ : ByteArray), .slice Ao38 y455.length co38, .int .i64 0, .int .i64 0]) ?_ 2 _ rfl; (with_reducible repeat first | apply vl | apply vn | apply vm); refine vv (cs := #[.string (⟨#[102, 108, 97, 116]⟩ : ByteArray), .slice none 0 0, .int .i64 0, .int .i64 0]) ?_ 1 _ rfl; (with_reducible repeat first | apply vl | apply vn | apply vm); refine vv (cs := #[.string (⟨#[]⟩ : ByteArray), .slice none 0 0, .int .i64 0, .int .i64 0]) ?_ 0 _ rfl; (with_reducible repeat first | apply vl | apply vn | apply vm); exact BK430.out) Tryd.underlying37 rfl (by kernel_rfl)) rfl ?_
       exact ⟨_, by first | rfl | (simp [wL, wK] <;> rfl) | (simp only [← hji26]; first | rfl | (simp [wL, wK] <;> rfl)) | (simp [*, wL, wK] <;> rfl), rU (Kd.vY (Kd.wI (p := ⟨gb430, 3, none⟩) (Kd.wI (p := ⟨gb430, 2, none⟩) (Kd.wI (p := ⟨gb430, 1, none⟩) (Kd.wI (p := ⟨gb430, 0, none⟩) (Kd.xu HO457.out BK430.out (by decide)) (fun _ hk => hk.2) (.string (⟨#[102, 108, 97, 116]⟩ : ByteArray))) (fun _ hk => hk.2) (.slice Ao38 y455.length co38)) (fun _ hk => hk.2) (.int .i64 t442)) (fun _ hk => hk.2) (.int .i64 a3)) (fun _ hk => trivial)), bl⟩
      ·rw [if_neg c30] at H
       exact absurd H (by simp)
     ·rw [if_neg c28] at H
      exact absurd H (by simp)
def vH.l0 : Nat → List Int → List Int → List (jf) → Int → Int → Option ((List (jf)))
 | 0, _, _, _, _, _ => none
 | k + 1, x0, x1, x5, x6, x7 => if (x1.length : Int) > 0 then (if x6 < (x1.length : Int) then ((vJ.f k x0 x1 x6 x7).bind fun bt458 => (if x5.length < 2513169434916 then (vH.l0 k x0 x1 (x5 ++ [(⟨bt458.1, bt458.2.1, bt458.2.2.1, bt458.2.2.2⟩ : jf)]) bt458.2.2.1 bt458.2.2.2) else (none))) else (some x5)) else (some x5)
def vH.f (k : Nat) (l0 : List Int) (l1 : List Int) : Option ((List (jf))) := vH.l0 k l0 l1 ([] : List (jf)) (-1) 0
theorem vH.wj : ∀ k, (∀ y0 y1 y2 y3 y4, vP (vH.l0 k y0 y1 y2 y3 y4) (vH.l0 (k + 1) y0 y1 y2 y3 y4))
 | 0 => fun _ _ _ _ _ r h => by simp [vH.l0] at h
 | k + 1 => by
  have ih0 := vH.wj k
  ·intro y0 y1 y2 y3 y4
   unfold vH.l0
   repeat' first
   | (with_reducible exact ih0 _ _ _ _ _)
   | (with_reducible exact vJ.mono _ _ _ _ _)
   | (with_reducible first | exact vP.refl _ | exact vP.none _ | apply vP.ite | refine vP.bind ?_ fun _ => ?_)
theorem vH.mono : ∀ a0 a1 k, vP (vH.f k a0 a1) (vH.f (k + 1) a0 a1) := by
 intro a0 a1 k
 have ih0 := vH.wj k
 unfold vH.f
 repeat' first
   | (with_reducible exact ih0 _ _ _ _ _)
   | (with_reducible exact vJ.mono _ _ _ _ _)
   | (with_reducible first | exact vP.refl _ | exact vP.none _ | apply vP.ite | refine vP.bind ?_ fun _ => ?_)
set_option maxHeartbeats 8000000 in
set_option maxRecDepth 100000 in
theorem vH.calls (k : Nat) (A0 : Option Addr) (c0 : Nat) (l0 : List Int) (A1 : Option Addr) (c1 : Nat) (l1 : List Int) (r : List (jf)) (w : World) (hr0 : Kd.C (Kd.int .u8) w A0 l0.length l0) (hc0 : l0.length ≤ c0) (hr1 : Kd.C (Kd.int .u8) w A1 l1.length l1) (hc1 : l1.length ≤ c1) (h : vH.f k l0 l1 = some r) :
  Calls Tryd.prog 18 #[.slice A0 l0.length c0, .slice A1 l1.length c1] w fun e w' => ∃ v0_ : Value, e = .returned (v0_) ∧ Kd.S k37 37 w' w.heap.size (fun _ => True) v0_ r ∧ Below w.heap.size w w' := by
 have hu37 := Tryd.underlying37
 have HR0 := Aside0.mk hr0
 have HC0 := Aside0.mk hc0
 clear hr0 hc0
 have HR1 := Aside0.mk hr1
 have HC1 := Aside0.mk hc1
 clear hr1 hc1
 have HB := Aside0.mk (Below.refl w.heap.size w)
 have H : (vH.l0 k l0 l1 ([] : List (jf)) (-1) 0) = some r := h
 clear h
 have H' := Aside0.mk H
 clear H
 go_enter Tryd.func18, Tryd.ntmps18
 go_wp2
 go_loopg [5, 6, 7] k (fun kq v5 v6 v7 w' => ∃ (x5_1 : List (jf)) (x6_1 : Int) (x7_1 : Int), v6 = .int .i64 x6_1 ∧ v7 = .int .i64 x7_1 ∧ Aside0 (vH.l0 kq l0 l1 x5_1 x6_1 x7_1 = some r) ∧ Aside0 (kq ≤ k) ∧ Aside0 (Kd.S k37 37 w' w.heap.size (fun _ => True) v5 x5_1) ∧ Aside0 (Below w.heap.size w w'))
 case atStart => exact ⟨(([] : List (jf))), ((-1)), (0), rq, rq, H', ⟨Nat.le_refl _⟩, ⟨by first | exact Kd.yZ _ _ _ _ _ | exact Kd.za _ _ _ _ _ | exact Kd.y9 _ _ _ _ _ | exact Kd.zb _ _ _ _ _ | exact Kd.yC _ _ _ _ _⟩, ⟨bl⟩⟩
 case round =>
  clear H'
  try clear c1
  obtain ⟨x5_1, x6_1, x7_1, rfl, rfl, HA, HK1, HO_5, HB⟩ := hrel
  cases gk with
  | zero => exact absurd HA.out (by simp [vH.l0])
  | succ k1 =>
   have H := HA.out
   clear HA
   simp only [vH.l0] at H
   by_cases c3 : (l1.length : Int) > 0
   ·rw [if_pos c3] at H
    have c3b0 := decide_eq_true c3
    have c3b1 : decide (0 < l1.length) = true := decide_eq_true (by omega)
    clear c3
    rcases iL H with H1 | H1 <;> clear H <;> obtain ⟨H, c4b0⟩ := H1
    ·obtain ⟨⟨t458, t459, t462, t463⟩, A5, H⟩ := oB H
     try dsimp only at H
     by_cases c6 : x5_1.length < 2513169434916
     ·rw [if_pos c6] at H
      have LMc6 := Aside0.mk c6
      clear c6
      obtain ⟨y465, hy_⟩ : ∃ y_ : List (jf), y_ = (x5_1 ++ [(⟨t458, t459, t462, t463⟩ : jf)]) := ⟨_, rfl⟩
      replace H : (vH.l0 k1 l0 l1 y465 t462 t463) = some r := rh
      have Ny465 := aE hy_
      clear hy_
      have H' := Aside0.mk H
      clear H
      go_wp2_with (first | (go_at_call 44; (with_reducible refine (vJ.calls k1 _ _ l0 _ _ l1 x6_1 x7_1 t458 t459 t462 t463 _ ?side1 ?side2 ?side3 ?side4 A5.out).mono ?_); (case side1 => exact cU (Kd.wO HR0.out HB.out)); (case side2 => exact HC0.out); (case side3 => exact cU (Kd.wO HR1.out HB.out)); (case side4 => exact HC1.out); rintro e w7 ⟨v460, rfl, ho0, hb⟩; have n_ := aC (Kd.S_elder' (by (with_reducible repeat (first | apply Kd.xP | apply Kd.xM | apply Kd.yn)); exact HO_5.out) (Kd.xi ho0) hb) (aC (Kd.vX ho0 bz) (aE (bs hb))); clear HO_5 HB; obtain ⟨HO_5, HO461, HB⟩ := n_) | ((with_reducible refine gd 8 rfl ?_); (try (refine yb (by rfl) ?_; dsimp only)); refine bx 8 #[.string (⟨#[]⟩ : ByteArray), .slice none 0 0, .int .i64 0, .int .i64 0] 37 rfl rfl ?_; intro gb464 hg w8 hbox hb; have n_ := aC (Kd.jj (Kd.j9 (by (with_reducible repeat (first | apply Kd.xP | apply Kd.xM | apply Kd.yn)); exact HO_5.out) gb464 (Nat.le_of_eq hg.symm)) hb) (aC (Kd.vT (rU HO461.out) hb) (aC (bs hb) (aC hbox (aC (gz hg) (aE (gz hg)))))); clear HO_5 HO461 HB; obtain ⟨HO_5, HO461, HB, BK464, GW464, GE464⟩ := n_; clear hb hbox hg; obtain ⟨hcz9_0, hcz9_1, hcz9_2, hcz9_3, hfz9_0, hfz9_1, hfz9_2, hfz9_3⟩ := xC BK464.out; obtain ⟨Ao10, co10, eo10⟩ := Kd.wq HO461.out; subst eo10) | ((with_reducible refine zp (t := 37) (p := 8) rfl ?_); (try (rw [yL w8]; generalize hq_ : World.drewN w8 _ = w8; have n0_ := Aside0.mk (Kd.S_at hq_ HO_5.out); have n1_ := Aside0.mk (Kd.R_at hq_ HO461.out); have n2_ := Aside0.mk (blk_at hq_ BK464.out); have n3_ := Aside0.mk (qq hq_ HB.out); clear hq_ HO_5 HO461 BK464 HB; have HO_5 := n0_; have HO461 := n1_; have BK464 := n2_; have HB := n3_; clear n0_ n1_ n2_ n3_)); refine yY (t := 37) (p := 8) (v := ?vo_w11) (w1 := ((((w8.setCell ⟨gb464, 0, none⟩ (.string t458)).setCell ⟨gb464, 1, none⟩ (.slice Ao10 t459.length co10)).setCell ⟨gb464, 2, none⟩ (.int .i64 t462)).setCell ⟨gb464, 3, none⟩ (.int .i64 t463))) ?hg ?ho ?hn ?hr ?_; (case ho => rfl); (case hg => rfl); (case hn => rfl); (case hr => first | (go_simp; done) | (go_simp; rfl)); intro w11 hw; have n_ := aC (show Kd.S k37 37 w11 w.heap.size (fun k_ => some k_ ≠ (.slice Ao10 t459.length co10 : Value).ownBlock ∧ k_ ≠ gb464) u5 x5_1 from (by rw [hw]; exact (by (with_reducible repeat (first | apply Kd.xP | apply Kd.xM | apply Kd.yn)); exact Kd.yR (Kd.zI (p := ⟨gb464, 3, none⟩) (Kd.zI (p := ⟨gb464, 2, none⟩) (Kd.zI (p := ⟨gb464, 1, none⟩) (Kd.zI (p := ⟨gb464, 0, none⟩) (Kd.yR HO_5.out (fun k_ hk => (⟨hk, hk.2⟩ : _ ∧ k_ ≠ gb464))) (fun _ hk => hk.2) (.string t458)) (fun _ hk => hk.2) (.slice Ao10 t459.length co10)) (fun _ hk => hk.2) (.int .i64 t462)) (fun _ hk => hk.2) (.int .i64 t463)) (fun _ hk => ⟨hk.1.1.2, hk.1.2⟩)))) (aC (show Kd.R (Kd.int .u8) 5 w11 w.heap.size (fun _ => True) (.slice Ao10 t459.length co10) t459 from (by rw [hw]; exact (rU (Kd.vY (Kd.wI (p := ⟨gb464, 3, none⟩) (Kd.wI (p := ⟨gb464, 2, none⟩) (Kd.wI (p := ⟨gb464, 1, none⟩) (Kd.wI (p := ⟨gb464, 0, none⟩) (Kd.xu HO461.out BK464.out (by decide)) (fun _ hk => hk.2) (.string t458)) (fun _ hk => hk.2) (.slice Ao10 t459.length co10)) (fun _ hk => hk.2) (.int .i64 t462)) (fun _ hk => hk.2) (.int .i64 t463)) (fun _ hk => trivial))))) (aC (show w11.heap[gb464]? = some (.cells #[.string t458, .slice Ao10 t459.length co10, .int .i64 t462, .int .i64 t463] 37 (0, 0)) from (by rw [hw]; exact (by (with_reducible repeat first | apply vl | apply vn | apply vm); refine vv (cs := #[.string t458, .slice Ao10 t459.length co10, .int .i64 t462, .int .i64 0]) ?_ 3 _ rfl; (with_reducible repeat first | apply vl | apply vn | apply vm); refine vv (cs := #[.string t458, .slice Ao10 t459.length co10, .int .i64 0, .int .i64 0]) ?_ 2 _ rfl; (with_reducible repeat first | apply vl | apply vn | apply vm); refine vv (cs := #[.string t458, .slice none 0 0, .int .i64 0, .int .i64 0]) ?_ 1 _ rfl; (with_reducible repeat first | apply vl | apply vn | apply vm); refine vv (cs := #[.string (⟨#[]⟩ : ByteArray), .slice none 0 0, .int .i64 0, .int .i64 0]) ?_ 0 _ rfl; (with_reducible repeat first | apply vl | apply vn | apply vm); exact BK464.out))) (aE (show Below w.heap.size w w11 from (by rw [hw]; exact bl))))); clear hw HO_5 HO461 BK464 HB; obtain ⟨HO_5, HO461, BK464, HB⟩ := n_; obtain ⟨hcz12_0, hcz12_1, hcz12_2, hcz12_3, hfz12_0, hfz12_1, hfz12_2, hfz12_3⟩ := xC BK464.out) | ((with_reducible refine xb (b := .append) (xs := #[.tmp 23, .tmp 25]) rfl ?_); (try (refine yb (by rfl) ?_; dsimp only)); at_builtin; refine Kd.j5 k37 (w0 := w) w.heap.size rfl (.tmp 23) (.tmp 25) 34 37 (.agg #[(.string ⟨#[]⟩), (.slice none 0 0), (.int .i64 0), (.int .i64 0)]) 56 rfl Tryd.underlying34 info37 rfl (by decide) (by omega) u5 x5_1 (⟨t458, t459, t462, t463⟩ : jf) [.string t458, .slice Ao10 t459.length co10, .int .i64 t462, .int .i64 t463] (fun k_ => k_ ≠ gb464) (fun k_ => some k_ = (.slice Ao10 t459.length co10 : Value).ownBlock) rfl rfl ?aP (fun k_ hk_ => ((Kd.vY (ok' := fun k_ => ((fun k_ => k_ ≠ gb464)) k_ ∧ some k_ ≠ (u5 : Value).ownBlock) (Kd.xu (Kd.R_apart' (HO461.out) (Kd.z9 HO_5.out) (by decide)) BK464.out (by decide)) (fun k_ hk => ⟨hk.2, hk.1.2⟩))).1 k_ hk_.symm) ?aF ?aO ?aB ?aS ?aL ?_; (case aP => exact k37_mkM _ _ _ (⟨t458, t459, t462, t463⟩ : jf) (Kd.vY (Kd.kc rfl (Kd.vY (ok' := fun k_ => ((fun k_ => k_ ≠ gb464)) k_ ∧ some k_ ≠ (u5 : Value).ownBlock) (Kd.xu (Kd.R_apart' (HO461.out) (Kd.z9 HO_5.out) (by decide)) BK464.out (by decide)) (fun k_ hk => ⟨hk.2, hk.1.2⟩))) (fun _ h_ => h_))); (case aB => exact bl); (case aF => exact (fun k_ hk => Kd.km (bU BK464.out) k_ hk)); (case aO => exact (by (with_reducible repeat (first | apply Kd.xP | apply Kd.xM | apply Kd.yn)); exact Kd.yR HO_5.out (fun k_ hk => ⟨hk.2, fun e_ => hk.1 e_⟩))); (case aS => exact bz); (case aL => have := LMc6.out; omega); intro v466 w13 ho hb hg hat; rw [← Ny465.out] at ho; have n_ := aC (xx (bU BK464.out) hg (Kd.S_away HO_5.out (fun _ hk => hk.2))) (aC hb (aE ho)); clear BK464 HB HO_5 HO461; obtain ⟨BK464, HB, HO467⟩ := n_; clear ho hb hg hat; obtain ⟨hcz14_0, hcz14_1, hcz14_2, hcz14_3, hfz14_0, hfz14_1, hfz14_2, hfz14_3⟩ := xC BK464.out))
      repeat (go_quiet (first | (go_at_call 44; (with_reducible refine (vJ.calls k1 _ _ l0 _ _ l1 x6_1 x7_1 t458 t459 t462 t463 _ ?side1 ?side2 ?side3 ?side4 A5.out).mono ?_); (case side1 => exact cU (Kd.wO HR0.out HB.out)); (case side2 => exact HC0.out); (case side3 => exact cU (Kd.wO HR1.out HB.out)); (case side4 => exact HC1.out); rintro e w7 ⟨v460, rfl, ho0, hb⟩; have n_ := aC (Kd.S_elder' (by (with_reducible repeat (first | apply Kd.xP | apply Kd.xM | apply Kd.yn)); exact HO_5.out) (Kd.xi ho0) hb) (aC (Kd.vX ho0 bz) (aE (bs hb))); clear HO_5 HB; obtain ⟨HO_5, HO461, HB⟩ := n_) | ((with_reducible refine gd 8 rfl ?_); (try (refine yb (by rfl) ?_; dsimp only)); refine bx 8 #[.string (⟨#[]⟩ : ByteArray), .slice none 0 0, .int .i64 0, .int .i64 0] 37 rfl rfl ?_; intro gb464 hg w8 hbox hb; have n_ := aC (Kd.jj (Kd.j9 (by (with_reducible repeat (first | apply Kd.xP | apply Kd.xM | apply Kd.yn)); exact HO_5.out) gb464 (Nat.le_of_eq hg.symm)) hb) (aC (Kd.vT (rU HO461.out) hb) (aC (bs hb) (aC hbox (aC (gz hg) (aE (gz hg)))))); clear HO_5 HO461 HB; obtain ⟨HO_5, HO461, HB, BK464, GW464, GE464⟩ := n_; clear hb hbox hg; obtain ⟨hcz9_0, hcz9_1, hcz9_2, hcz9_3, hfz9_0, hfz9_1, hfz9_2, hfz9_3⟩ := xC BK464.out; obtain ⟨Ao10, co10, eo10⟩ := Kd.wq HO461.out; subst eo10) | ((with_reducible refine zp (t := 37) (p := 8) rfl ?_); (try (rw [yL w8]; generalize hq_ : World.drewN w8 _ = w8; have n0_ := Aside0.mk (Kd.S_at hq_ HO_5.out); have n1_ := Aside0.mk (Kd.R_at hq_ HO461.out); have n2_ := Aside0.mk (blk_at hq_ BK464.out); have n3_ := Aside0.mk (qq hq_ HB.out); clear hq_ HO_5 HO461 BK464 HB; have HO_5 := n0_; have HO461 := n1_; have BK464 := n2_; have HB := n3_; clear n0_ n1_ n2_ n3_)); refine yY (t := 37) (p := 8) (v := ?vo_w11) (w1 := ((((w8.setCell ⟨gb464, 0, none⟩ (.string t458)).setCell ⟨gb464, 1, none⟩ (.slice Ao10 t459.length co10)).setCell ⟨gb464, 2, none⟩ (.int .i64 t462)).setCell ⟨gb464, 3, none⟩ (.int .i64 t463))) ?hg ?ho ?hn ?hr ?_; (case ho => rfl); (case hg => rfl); (case hn => rfl); (case hr => first | (go_simp; done) | (go_simp; rfl)); intro w11 hw; have n_ := aC (show Kd.S k37 37 w11 w.heap.size (fun k_ => some k_ ≠ (.slice Ao10 t459.length co10 : Value).ownBlock ∧ k_ ≠ gb464) u5 x5_1 from (by rw [hw]; exact (by (with_reducible repeat (first | apply Kd.xP | apply Kd.xM | apply Kd.yn)); exact Kd.yR (Kd.zI (p := ⟨gb464, 3, none⟩) (Kd.zI (p := ⟨gb464, 2, none⟩) (Kd.zI (p := ⟨gb464, 1, none⟩) (Kd.zI (p := ⟨gb464, 0, none⟩) (Kd.yR HO_5.out (fun k_ hk => (⟨hk, hk.2⟩ : _ ∧ k_ ≠ gb464))) (fun _ hk => hk.2) (.string t458)) (fun _ hk => hk.2) (.slice Ao10 t459.length co10)) (fun _ hk => hk.2) (.int .i64 t462)) (fun _ hk => hk.2) (.int .i64 t463)) (fun _ hk => ⟨hk.1.1.2, hk.1.2⟩)))) (aC (show Kd.R (Kd.int .u8) 5 w11 w.heap.size (fun _ => True) (.slice Ao10 t459.length co10) t459 from (by rw [hw]; exact (rU (Kd.vY (Kd.wI (p := ⟨gb464, 3, none⟩) (Kd.wI (p := ⟨gb464, 2, none⟩) (Kd.wI (p := ⟨gb464, 1, none⟩) (Kd.wI (p := ⟨gb464, 0, none⟩) (Kd.xu HO461.out BK464.out (by decide)) (fun _ hk => hk.2) (.string t458)) (fun _ hk => hk.2) (.slice Ao10 t459.length co10)) (fun _ hk => hk.2) (.int .i64 t462)) (fun _ hk => hk.2) (.int .i64 t463)) (fun _ hk => trivial))))) (aC (show w11.heap[gb464]? = some (.cells #[.string t458, .slice Ao10 t459.length co10, .int .i64 t462, .int .i64 t463] 37 (0, 0)) from (by rw [hw]; exact (by (with_reducible repeat first | apply vl | apply vn | apply vm); refine vv (cs := #[.string t458, .slice Ao10 t459.length co10, .int .i64 t462, .int .i64 0]) ?_ 3 _ rfl; (with_reducible repeat first | apply vl | apply vn | apply vm); refine vv (cs := #[.string t458, .slice Ao10 t459.length co10, .int .i64 0, .int .i64 0]) ?_ 2 _ rfl; (with_reducible repeat first | apply vl | apply vn | apply vm); refine vv (cs := #[.string t458, .slice none 0 0, .int .i64 0, .int .i64 0]) ?_ 1 _ rfl; (with_reducible repeat first | apply vl | apply vn | apply vm); refine vv (cs := #[.string (⟨#[]⟩ : ByteArray), .slice none 0 0, .int .i64 0, .int .i64 0]) ?_ 0 _ rfl; (with_reducible repeat first | apply vl | apply vn | apply vm); exact BK464.out))) (aE (show Below w.heap.size w w11 from (by rw [hw]; exact bl))))); clear hw HO_5 HO461 BK464 HB; obtain ⟨HO_5, HO461, BK464, HB⟩ := n_; obtain ⟨hcz12_0, hcz12_1, hcz12_2, hcz12_3, hfz12_0, hfz12_1, hfz12_2, hfz12_3⟩ := xC BK464.out) | ((with_reducible refine xb (b := .append) (xs := #[.tmp 23, .tmp 25]) rfl ?_); (try (refine yb (by rfl) ?_; dsimp only)); at_builtin; refine Kd.j5 k37 (w0 := w) w.heap.size rfl (.tmp 23) (.tmp 25) 34 37 (.agg #[(.string ⟨#[]⟩), (.slice none 0 0), (.int .i64 0), (.int .i64 0)]) 56 rfl Tryd.underlying34 info37 rfl (by decide) (by omega) u5 x5_1 (⟨t458, t459, t462, t463⟩ : jf) [.string t458, .slice Ao10 t459.length co10, .int .i64 t462, .int .i64 t463] (fun k_ => k_ ≠ gb464) (fun k_ => some k_ = (.slice Ao10 t459.length co10 : Value).ownBlock) rfl rfl ?aP (fun k_ hk_ => ((Kd.vY (ok' := fun k_ => ((fun k_ => k_ ≠ gb464)) k_ ∧ some k_ ≠ (u5 : Value).ownBlock) (Kd.xu (Kd.R_apart' (HO461.out) (Kd.z9 HO_5.out) (by decide)) BK464.out (by decide)) (fun k_ hk => ⟨hk.2, hk.1.2⟩))).1 k_ hk_.symm) ?aF ?aO ?aB ?aS ?aL ?_; (case aP => exact k37_mkM _ _ _ (⟨t458, t459, t462, t463⟩ : jf) (Kd.vY (Kd.kc rfl (Kd.vY (ok' := fun k_ => ((fun k_ => k_ ≠ gb464)) k_ ∧ some k_ ≠ (u5 : Value).ownBlock) (Kd.xu (Kd.R_apart' (HO461.out) (Kd.z9 HO_5.out) (by decide)) BK464.out (by decide)) (fun k_ hk => ⟨hk.2, hk.1.2⟩))) (fun _ h_ => h_))); (case aB => exact bl); (case aF => exact (fun k_ hk => Kd.km (bU BK464.out) k_ hk)); (case aO => exact (by (with_reducible repeat (first | apply Kd.xP | apply Kd.xM | apply Kd.yn)); exact Kd.yR HO_5.out (fun k_ hk => ⟨hk.2, fun e_ => hk.1 e_⟩))); (case aS => exact bz); (case aL => have := LMc6.out; omega); intro v466 w13 ho hb hg hat; rw [← Ny465.out] at ho; have n_ := aC (xx (bU BK464.out) hg (Kd.S_away HO_5.out (fun _ hk => hk.2))) (aC hb (aE ho)); clear BK464 HB HO_5 HO461; obtain ⟨BK464, HB, HO467⟩ := n_; clear ho hb hg hat; obtain ⟨hcz14_0, hcz14_1, hcz14_2, hcz14_3, hfz14_0, hfz14_1, hfz14_2, hfz14_3⟩ := xC BK464.out)); try go_wp2_with (first | (go_at_call 44; (with_reducible refine (vJ.calls k1 _ _ l0 _ _ l1 x6_1 x7_1 t458 t459 t462 t463 _ ?side1 ?side2 ?side3 ?side4 A5.out).mono ?_); (case side1 => exact cU (Kd.wO HR0.out HB.out)); (case side2 => exact HC0.out); (case side3 => exact cU (Kd.wO HR1.out HB.out)); (case side4 => exact HC1.out); rintro e w7 ⟨v460, rfl, ho0, hb⟩; have n_ := aC (Kd.S_elder' (by (with_reducible repeat (first | apply Kd.xP | apply Kd.xM | apply Kd.yn)); exact HO_5.out) (Kd.xi ho0) hb) (aC (Kd.vX ho0 bz) (aE (bs hb))); clear HO_5 HB; obtain ⟨HO_5, HO461, HB⟩ := n_) | ((with_reducible refine gd 8 rfl ?_); (try (refine yb (by rfl) ?_; dsimp only)); refine bx 8 #[.string (⟨#[]⟩ : ByteArray), .slice none 0 0, .int .i64 0, .int .i64 0] 37 rfl rfl ?_; intro gb464 hg w8 hbox hb; have n_ := aC (Kd.jj (Kd.j9 (by (with_reducible repeat (first | apply Kd.xP | apply Kd.xM | apply Kd.yn)); exact HO_5.out) gb464 (Nat.le_of_eq hg.symm)) hb) (aC (Kd.vT (rU HO461.out) hb) (aC (bs hb) (aC hbox (aC (gz hg) (aE (gz hg)))))); clear HO_5 HO461 HB; obtain ⟨HO_5, HO461, HB, BK464, GW464, GE464⟩ := n_; clear hb hbox hg; obtain ⟨hcz9_0, hcz9_1, hcz9_2, hcz9_3, hfz9_0, hfz9_1, hfz9_2, hfz9_3⟩ := xC BK464.out; obtain ⟨Ao10, co10, eo10⟩ := Kd.wq HO461.out; subst eo10) | ((with_reducible refine zp (t := 37) (p := 8) rfl ?_); (try (rw [yL w8]; generalize hq_ : World.drewN w8 _ = w8; have n0_ := Aside0.mk (Kd.S_at hq_ HO_5.out); have n1_ := Aside0.mk (Kd.R_at hq_ HO461.out); have n2_ := Aside0.mk (blk_at hq_ BK464.out); have n3_ := Aside0.mk (qq hq_ HB.out); clear hq_ HO_5 HO461 BK464 HB; have HO_5 := n0_; have HO461 := n1_; have BK464 := n2_; have HB := n3_; clear n0_ n1_ n2_ n3_)); refine yY (t := 37) (p := 8) (v := ?vo_w11) (w1 := ((((w8.setCell ⟨gb464, 0, none⟩ (.string t458)).setCell ⟨gb464, 1, none⟩ (.slice Ao10 t459.length co10)).setCell ⟨gb464, 2, none⟩ (.int .i64 t462)).setCell ⟨gb464, 3, none⟩ (.int .i64 t463))) ?hg ?ho ?hn ?hr ?_; (case ho => rfl); (case hg => rfl); (case hn => rfl); (case hr => first | (go_simp; done) | (go_simp; rfl)); intro w11 hw; have n_ := aC (show Kd.S k37 37 w11 w.heap.size (fun k_ => some k_ ≠ (.slice Ao10 t459.length co10 : Value).ownBlock ∧ k_ ≠ gb464) u5 x5_1 from (by rw [hw]; exact (by (with_reducible repeat (first | apply Kd.xP | apply Kd.xM | apply Kd.yn)); exact Kd.yR (Kd.zI (p := ⟨gb464, 3, none⟩) (Kd.zI (p := ⟨gb464, 2, none⟩) (Kd.zI (p := ⟨gb464, 1, none⟩) (Kd.zI (p := ⟨gb464, 0, none⟩) (Kd.yR HO_5.out (fun k_ hk => (⟨hk, hk.2⟩ : _ ∧ k_ ≠ gb464))) (fun _ hk => hk.2) (.string t458)) (fun _ hk => hk.2) (.slice Ao10 t459.length co10)) (fun _ hk => hk.2) (.int .i64 t462)) (fun _ hk => hk.2) (.int .i64 t463)) (fun _ hk => ⟨hk.1.1.2, hk.1.2⟩)))) (aC (show Kd.R (Kd.int .u8) 5 w11 w.heap.size (fun _ => True) (.slice Ao10 t459.length co10) t459 from (by rw [hw]; exact (rU (Kd.vY (Kd.wI (p := ⟨gb464, 3, none⟩) (Kd.wI (p := ⟨gb464, 2, none⟩) (Kd.wI (p := ⟨gb464, 1, none⟩) (Kd.wI (p := ⟨gb464, 0, none⟩) (Kd.xu HO461.out BK464.out (by decide)) (fun _ hk => hk.2) (.string t458)) (fun _ hk => hk.2) (.slice Ao10 t459.length co10)) (fun _ hk => hk.2) (.int .i64 t462)) (fun _ hk => hk.2) (.int .i64 t463)) (fun _ hk => trivial))))) (aC (show w11.heap[gb464]? = some (.cells #[.string t458, .slice Ao10 t459.length co10, .int .i64 t462, .int .i64 t463] 37 (0, 0)) from (by rw [hw]; exact (by (with_reducible repeat first | apply vl | apply vn | apply vm); refine vv (cs := #[.string t458, .slice Ao10 t459.length co10, .int .i64 t462, .int .i64 0]) ?_ 3 _ rfl; (with_reducible repeat first | apply vl | apply vn | apply vm); refine vv (cs := #[.string t458, .slice Ao10 t459.length co10, .int .i64 0, .int .i64 0]) ?_ 2 _ rfl; (with_reducible repeat first | apply vl | apply vn | apply vm); refine vv (cs := #[.string t458, .slice none 0 0, .int .i64 0, .int .i64 0]) ?_ 1 _ rfl; (with_reducible repeat first | apply vl | apply vn | apply vm); refine vv (cs := #[.string (⟨#[]⟩ : ByteArray), .slice none 0 0, .int .i64 0, .int .i64 0]) ?_ 0 _ rfl; (with_reducible repeat first | apply vl | apply vn | apply vm); exact BK464.out))) (aE (show Below w.heap.size w w11 from (by rw [hw]; exact bl))))); clear hw HO_5 HO461 BK464 HB; obtain ⟨HO_5, HO461, BK464, HB⟩ := n_; obtain ⟨hcz12_0, hcz12_1, hcz12_2, hcz12_3, hfz12_0, hfz12_1, hfz12_2, hfz12_3⟩ := xC BK464.out) | ((with_reducible refine xb (b := .append) (xs := #[.tmp 23, .tmp 25]) rfl ?_); (try (refine yb (by rfl) ?_; dsimp only)); at_builtin; refine Kd.j5 k37 (w0 := w) w.heap.size rfl (.tmp 23) (.tmp 25) 34 37 (.agg #[(.string ⟨#[]⟩), (.slice none 0 0), (.int .i64 0), (.int .i64 0)]) 56 rfl Tryd.underlying34 info37 rfl (by decide) (by omega) u5 x5_1 (⟨t458, t459, t462, t463⟩ : jf) [.string t458, .slice Ao10 t459.length co10, .int .i64 t462, .int .i64 t463] (fun k_ => k_ ≠ gb464) (fun k_ => some k_ = (.slice Ao10 t459.length co10 : Value).ownBlock) rfl rfl ?aP (fun k_ hk_ => ((Kd.vY (ok' := fun k_ => ((fun k_ => k_ ≠ gb464)) k_ ∧ some k_ ≠ (u5 : Value).ownBlock) (Kd.xu (Kd.R_apart' (HO461.out) (Kd.z9 HO_5.out) (by decide)) BK464.out (by decide)) (fun k_ hk => ⟨hk.2, hk.1.2⟩))).1 k_ hk_.symm) ?aF ?aO ?aB ?aS ?aL ?_; (case aP => exact k37_mkM _ _ _ (⟨t458, t459, t462, t463⟩ : jf) (Kd.vY (Kd.kc rfl (Kd.vY (ok' := fun k_ => ((fun k_ => k_ ≠ gb464)) k_ ∧ some k_ ≠ (u5 : Value).ownBlock) (Kd.xu (Kd.R_apart' (HO461.out) (Kd.z9 HO_5.out) (by decide)) BK464.out (by decide)) (fun k_ hk => ⟨hk.2, hk.1.2⟩))) (fun _ h_ => h_))); (case aB => exact bl); (case aF => exact (fun k_ hk => Kd.km (bU BK464.out) k_ hk)); (case aO => exact (by (with_reducible repeat (first | apply Kd.xP | apply Kd.xM | apply Kd.yn)); exact Kd.yR HO_5.out (fun k_ hk => ⟨hk.2, fun e_ => hk.1 e_⟩))); (case aS => exact bz); (case aL => have := LMc6.out; omega); intro v466 w13 ho hb hg hat; rw [← Ny465.out] at ho; have n_ := aC (xx (bU BK464.out) hg (Kd.S_away HO_5.out (fun _ hk => hk.2))) (aC hb (aE ho)); clear BK464 HB HO_5 HO461; obtain ⟨BK464, HB, HO467⟩ := n_; clear ho hb hg hat; obtain ⟨hcz14_0, hcz14_1, hcz14_2, hcz14_3, hfz14_0, hfz14_1, hfz14_2, hfz14_3⟩ := xC BK464.out)))
      go_roundg k1
      case measure => have := HK1.out; omega
      case rel => exact ⟨(y465), (t462), (t463), rq, rq, H', ⟨by have := HK1.out; omega⟩, ⟨by (with_reducible repeat (first | apply Kd.xP | apply Kd.xM | apply Kd.yn)); exact Kd.yR HO467.out (fun _ hk => trivial)⟩, ⟨bl⟩⟩
     ·rw [if_neg c6] at H
      exact absurd H (by simp)
    ·obtain rfl := Option.some.inj H
     go_wp2
     go_ret
     exact ⟨_, re, by (with_reducible repeat (first | apply Kd.xP | apply Kd.xM | apply Kd.yn)); exact HO_5.out, bl⟩
   ·rw [if_neg c3] at H
    have c3b0 := decide_eq_false c3
    have c3b1 : decide (0 < l1.length) = false := decide_eq_false (by omega)
    clear c3
    obtain rfl := Option.some.inj H
    go_wp2
    go_ret
    exact ⟨_, re, by (with_reducible repeat (first | apply Kd.xP | apply Kd.xM | apply Kd.yn)); exact HO_5.out, bl⟩
def xf.f (a0_0 : Int) (a0_1 : Int) (l0_2 : List Int) (a1 : Int) : Option (List Int) := if a1 < 0 then (if 0 ≤ a0_0 then (if (a0_0 : Int).toNat ≤ 281474976710656 then (some (List.replicate (a0_0 : Int).toNat 0)) else (none)) else (none)) else ((some (([] : List Int) : List Int)).bind fun y472 => (if 0 ≤ (wrap64 (a1 * a0_0)) then (if (wrap64 (a1 * a0_0)) ≤ (wrap64 ((wrap64 (a1 + 1)) * a0_0)) then (if (wrap64 ((wrap64 (a1 + 1)) * a0_0)) ≤ (l0_2.length : Int) then (if y472.length + ((l0_2.take ((wrap64 ((wrap64 (a1 + 1)) * a0_0)) : Int).toNat).drop ((wrap64 (a1 * a0_0)) : Int).toNat).length < 140737488355328 then (some (y472 ++ ((l0_2.take ((wrap64 ((wrap64 (a1 + 1)) * a0_0)) : Int).toNat).drop ((wrap64 (a1 * a0_0)) : Int).toNat))) else (none)) else (none)) else (none)) else (none)))
set_option maxHeartbeats 8000000 in
set_option maxRecDepth 100000 in
theorem xf.calls (a0_0 : Int) (a0_1 : Int) (A0_2 : Option Addr) (c0_2 : Nat) (l0_2 : List Int) (a1 : Int) (r : List Int) (w : World) (hr0_2 : Kd.C (Kd.int .u8) w A0_2 l0_2.length l0_2) (hc0_2 : l0_2.length ≤ c0_2) (h : xf.f a0_0 a0_1 l0_2 a1 = some r) :
  Calls Tryd.prog 52 #[.agg #[.int .i64 a0_0, .int .i64 a0_1, .slice A0_2 l0_2.length c0_2], .int .i64 a1] w fun e w' => ∃ v0_ : Value, e = .returned (v0_) ∧ Kd.R (Kd.int .u8) 5 w' w.heap.size (fun _ => True) v0_ r ∧ Below w.heap.size w w' := by
 have hu48 := Tryd.underlying48
 have HR0_2 := Aside0.mk hr0_2
 have HC0_2 := Aside0.mk hc0_2
 clear hr0_2 hc0_2
 have HB := Aside0.mk (Below.refl w.heap.size w)
 have H := h
 unfold xf.f at H
 clear h
 rcases iL H with H1 | H1 <;> clear H <;> obtain ⟨H, c3b0⟩ := H1
 ·by_cases c4 : 0 ≤ a0_0
  ·rw [if_pos c4] at H
   have c4b0 := eq_true c4
   have c4b1 := decide_eq_true c4
   clear c4
   by_cases c5 : (a0_0 : Int).toNat ≤ 281474976710656
   ·rw [if_pos c5] at H
    have c5b0 := eq_true c5
    have c5b1 := decide_eq_true c5
    clear c5
    obtain ⟨y469, hy_⟩ : ∃ y_ : List Int, y_ = (List.replicate (a0_0 : Int).toNat 0) := ⟨_, rfl⟩
    replace H : (some y469) = some r := rh
    have Ny469 := aE hy_
    clear hy_
    obtain rfl := Option.some.inj H
    go_enter Tryd.func52, Tryd.ntmps52
    go_wp2_with (first | ((with_reducible refine gd 2 rfl ?_); refine bx 2 #[.int .i64 a0_0, .int .i64 a0_1, .slice A0_2 l0_2.length c0_2] 48 rfl rfl ?_; intro gb468 hg w6 hbox hb; have n_ := aC (bs hb) (aC hbox (aC (gz hg) (aE (gz hg)))); clear HB; obtain ⟨HB, BK468, GW468, GE468⟩ := n_; clear hb hbox hg; obtain ⟨hcz7_0, hcz7_1, hcz7_2, hfz7_0, hfz7_1, hfz7_2⟩ := zo BK468.out) | ((with_reducible refine gd 9 rfl ?_); refine Kd.jF (Kd.int .u8) _ 5 rfl (N := 9) rfl 22 _ _ rfl a0_0 rfl rfl Tryd.underlying22 (.int .u8 0) 1 info5 rfl (by decide) (by omega) 0 (ok := fun _ => True) (okp := fun _ => True) rfl (fun _ hk => hk) trivial (dt) (Nat.le_trans (Nat.mul_le_mul_right _ (dt : a0_0.toNat ≤ 281474976710656)) (by omega)) (Below.refl _ _) (Nat.le_refl _) ?_; intro v470 w8 ho9 hb hg_ hnew_; clear hg_ hnew_; (first | rw [← Ny469.out] at ho9 | (simp only [Int.reduceToNat] at ho9; rw [← Ny469.out] at ho9)); have n_ := aC (Kd.vX ho9 bz) (aC (vu (bU BK468.out) hb) (aE (bs hb))); clear BK468 HB; obtain ⟨HO471, BK468, HB⟩ := n_; clear hb ho9))
    go_ret
    exact ⟨_, re, rU HO471.out, bl⟩
   ·rw [if_neg c5] at H
    exact absurd H (by simp)
  ·rw [if_neg c4] at H
   exact absurd H (by simp)
 ·obtain ⟨y472, hy_⟩ : ∃ y_ : List Int, y_ = (([] : List Int)) := ⟨_, rfl⟩
  replace H : (if 0 ≤ (wrap64 (a1 * a0_0)) then (if (wrap64 (a1 * a0_0)) ≤ (wrap64 ((wrap64 (a1 + 1)) * a0_0)) then (if (wrap64 ((wrap64 (a1 + 1)) * a0_0)) ≤ (l0_2.length : Int) then (if y472.length + ((l0_2.take ((wrap64 ((wrap64 (a1 + 1)) * a0_0)) : Int).toNat).drop ((wrap64 (a1 * a0_0)) : Int).toNat).length < 140737488355328 then (some (y472 ++ ((l0_2.take ((wrap64 ((wrap64 (a1 + 1)) * a0_0)) : Int).toNat).drop ((wrap64 (a1 * a0_0)) : Int).toNat))) else (none)) else (none)) else (none)) else (none)) = some r := rh
  have Ny472 := aE hy_
  clear hy_
  obtain ⟨ji10, hji10⟩ : ∃ j_ : Int, (wrap64 (a1 * a0_0)) = j_ := ⟨_, rfl⟩
  replace H : (if 0 ≤ (ji10) then (if (ji10) ≤ (wrap64 ((wrap64 (a1 + 1)) * a0_0)) then (if (wrap64 ((wrap64 (a1 + 1)) * a0_0)) ≤ (l0_2.length : Int) then (if y472.length + ((l0_2.take ((wrap64 ((wrap64 (a1 + 1)) * a0_0)) : Int).toNat).drop ((ji10) : Int).toNat).length < 140737488355328 then (some (y472 ++ ((l0_2.take ((wrap64 ((wrap64 (a1 + 1)) * a0_0)) : Int).toNat).drop ((ji10) : Int).toNat))) else (none)) else (none)) else (none)) else (none)) = some r := by first | (rw [hji10] at H; exact H) | (simp only [hji10] at H ⊢; exact H)
  have hji10w : (IntKind.i64.wrap (a1 * a0_0)) = ji10 := (xD _).trans hji10
  by_cases c11 : 0 ≤ (ji10)
  ·rw [if_pos c11] at H
   have c11b0 := eq_true c11
   have c11b1 := decide_eq_true c11
   clear c11
   by_cases c12 : (ji10) ≤ (wrap64 ((wrap64 (a1 + 1)) * a0_0))
   ·rw [if_pos c12] at H
    have c12b0 := eq_true c12
    have c12b1 := decide_eq_true c12
    by_cases c13 : (wrap64 ((wrap64 (a1 + 1)) * a0_0)) ≤ (l0_2.length : Int)
    ·rw [if_pos c13] at H
     have c13b0 := eq_true c13
     have c13b1 := decide_eq_true c13
     by_cases c14 : y472.length + ((l0_2.take ((wrap64 ((wrap64 (a1 + 1)) * a0_0)) : Int).toNat).drop ((ji10) : Int).toNat).length < 140737488355328
     ·rw [if_pos c14] at H
      have LMc14 := Aside0.mk c14
      clear c14
      obtain ⟨y476, hy_⟩ : ∃ y_ : List Int, y_ = (y472 ++ ((l0_2.take ((wrap64 ((wrap64 (a1 + 1)) * a0_0)) : Int).toNat).drop ((ji10) : Int).toNat)) := ⟨_, rfl⟩
      replace H : (some y476) = some r := rh
      have Ny476 := aE hy_
      clear hy_
      obtain rfl := Option.some.inj H
      go_enter Tryd.func52, Tryd.ntmps52
      go_wp2_with (first | ((with_reducible refine gd 2 rfl ?_); refine bx 2 #[.int .i64 a0_0, .int .i64 a0_1, .slice A0_2 l0_2.length c0_2] 48 rfl rfl ?_; intro gb468 hg w15 hbox hb; have n_ := aC (bs hb) (aC hbox (aC (gz hg) (aE (gz hg)))); clear HB; obtain ⟨HB, BK468, GW468, GE468⟩ := n_; clear hb hbox hg) | ((with_reducible refine gd 10 rfl ?_); refine Kd.zV (Kd.int .u8) _ 5 ?hg (N := 10) ?hd (xs := ([] : List Int)) (inner := []) (ok := fun _ => True) (okp := fun _ => True) ?hr ?hp (fun _ hk => hk) trivial (Below.refl _ _) (Nat.le_refl _) (by simp) ?_; (case hd => rfl); (case hg => rfl); (case hr => first | (go_simp; done) | (go_simp; rfl)); (case hp => exact (wX.none _ _)); intro v473 w16 ho17 hb hg_ hnew_; clear hg_ hnew_; (first | rw [← Ny472.out] at ho17 | (simp only [Int.reduceToNat] at ho17; rw [← Ny472.out] at ho17)); have n_ := aC (Kd.vX ho17 bz) (aC (vu (bU BK468.out) hb) (aE (bs hb))); clear BK468 HB; obtain ⟨HO474, BK468, HB⟩ := n_; clear hb ho17; obtain ⟨hcz18_0, hcz18_1, hcz18_2, hfz18_0, hfz18_1, hfz18_2⟩ := zo BK468.out; obtain ⟨i019, hi019, _, hsz19, _⟩ := info_parts info5; obtain ⟨A19, hcut19, hA19, hC19⟩ := print_mid_of (P := Tryd.prog) (Value.int .u8) 0 22 5 .i64 .i64 Tryd.underlying22 hi019 hsz19 A0_2 c0_2 l0_2 (ji10) (wrap64 ((wrap64 (a1 + 1)) * a0_0)) (dt) (by first | omega | exact dt) (dt) HC0_2.out; have HR475 := Aside0.mk (Kd.jB (h1 := fun _ => rfl) (hA19 _ (Kd.zD HR0_2.out))); have HC475 := Aside0.mk hC19; clear hA19 hC19 hi019 hsz19) | ((with_reducible refine xb (b := .append) (xs := #[.tmp 10, .tmp 22]) rfl ?_); at_builtin; refine Kd.xW (Kd.int .u8) (w0 := w) w.heap.size rfl (.tmp 10) (.tmp 22) 22 5 (.int .u8 0) 1 rfl Tryd.underlying22 info5 rfl (by decide) (by omega) v473 y472 ((l0_2.take ((wrap64 ((wrap64 (a1 + 1)) * a0_0)) : Int).toNat).drop ((ji10) : Int).toNat) _ _ _ (fun _ => True) (fun _ => False) rfl rfl ?aO ?aR (fun _ _ h => h) (fun _ h => h.elim) ?aF ?aB ?aS ?aL ?_; (case aR => first | (rw [← show ((l0_2.take ((wrap64 ((wrap64 (a1 + 1)) * a0_0)) : Int).toNat).drop ((ji10) : Int).toNat).length = ((wrap64 ((wrap64 (a1 + 1)) * a0_0)).toNat - (ji10).toNat) from (by rw [List.length_drop, List.length_take]; have h_ : ((wrap64 ((wrap64 (a1 + 1)) * a0_0)) : Int) ≤ (l0_2.length : Int) := dt; omega)]; repeat (first | exact (Kd.wO HR475.out HB.out) | (with_reducible refine Kd.yk ?_ _) | (with_reducible refine Kd.yj ?_ _) | (with_reducible refine Kd.yI ?_))) | (repeat (first | exact (Kd.wO HR475.out HB.out) | (with_reducible refine Kd.yk ?_ _) | (with_reducible refine Kd.yj ?_ _) | (with_reducible refine Kd.yI ?_)))); (case aB => exact bl); (case aF => exact (fun _ _ => trivial)); (case aO => exact (rU HO474.out)); (case aS => exact bz); (case aL => have := LMc14.out; have hlx_ := (show ((l0_2.take ((wrap64 ((wrap64 (a1 + 1)) * a0_0)) : Int).toNat).drop ((ji10) : Int).toNat).length = ((wrap64 ((wrap64 (a1 + 1)) * a0_0)).toNat - (ji10).toNat) from (by rw [List.length_drop, List.length_take]; have h_ : ((wrap64 ((wrap64 (a1 + 1)) * a0_0)) : Int) ≤ (l0_2.length : Int) := dt; omega)); omega); intro v477 w20 ho hb hg hat; rw [← Ny476.out] at ho; have n_ := aC (xx (bU BK468.out) hg (Kd.jh HO474.out BK468.out (by decide))) (aC hb (aE ho)); clear BK468 HB HO474; obtain ⟨BK468, HB, HO478⟩ := n_; clear ho hb hg hat))
      go_ret
      exact ⟨_, by first | rfl | (simp [wL, wK] <;> rfl) | (simp only [← hji10]; first | rfl | (simp [wL, wK] <;> rfl)) | (simp [*, wL, wK] <;> rfl), rU HO478.out, bl⟩
     ·rw [if_neg c14] at H
      exact absurd H (by simp)
    ·rw [if_neg c13] at H
     exact absurd H (by simp)
   ·rw [if_neg c12] at H
    exact absurd H (by simp)
  ·rw [if_neg c11] at H
   exact absurd H (by simp)
mutual
def vt.l0 : Nat → List Int → Int → Int → Int → List Int → Option (List Int)
 | 0, _, _, _, _, _ => none
 | k + 1, x3, x4, x480000, x480001, x480002 => if x4 < x480001 then ((xf.f x480000 x480001 x480002 (wrap64 (x4 - 1))).bind fun t480 => ((xf.f x480000 x480001 x480002 x4).bind fun t483 => ((vH.f k t480 t483).bind fun t486 => (vt.l1 k x3 x4 t486 (t486.length : Int) 0 x480000 x480001 x480002)))) else (some x3)
def vt.l1 : Nat → List Int → Int → List (jf) → Int → Int → Int → Int → List Int → Option (List Int)
 | 0, _, _, _, _, _, _, _, _ => none
 | k + 1, x3, x4, x20, x21, x22, x480000, x480001, x480002 => if x22 < x21 then (if 0 ≤ x22 then (if x22 < (x20.length : Int) then (if x3.length + ((xJ x20 x22).f1).length < 140737488355328 then (vt.l1 k (x3 ++ ((xJ x20 x22).f1)) x4 x20 x21 (wrap64 (x22 + 1)) x480000 x480001 x480002) else (none)) else (none)) else (none)) else (vt.l0 k x3 (wrap64 (x4 + 1)) x480000 x480001 x480002)
end
def vt.f (k : Nat) (a0_0 : Int) (a0_1 : Int) (l0_2 : List Int) : Option (List Int) := vt.l0 k ([] : List Int) 0 a0_0 a0_1 l0_2
theorem vt.wj : ∀ k, (∀ y0 y1 y2 y3 y4, vP (vt.l0 k y0 y1 y2 y3 y4) (vt.l0 (k + 1) y0 y1 y2 y3 y4)) ∧ (∀ y0 y1 y2 y3 y4 y5 y6 y7, vP (vt.l1 k y0 y1 y2 y3 y4 y5 y6 y7) (vt.l1 (k + 1) y0 y1 y2 y3 y4 y5 y6 y7))
 | 0 => ⟨fun _ _ _ _ _ r h => by simp [vt.l0] at h, fun _ _ _ _ _ _ _ _ r h => by simp [vt.l1] at h⟩
 | k + 1 => by
  obtain ⟨ih0, ih1⟩ := vt.wj k
  refine ⟨?_, ?_⟩
  ·intro y0 y1 y2 y3 y4
   unfold vt.l0
   repeat' first
   | (with_reducible exact ih0 _ _ _ _ _)
   | (with_reducible exact ih1 _ _ _ _ _ _ _ _)
   | (with_reducible exact vH.mono _ _ _)
   | (with_reducible first | exact vP.refl _ | exact vP.none _ | apply vP.ite | refine vP.bind ?_ fun _ => ?_)
  ·intro y0 y1 y2 y3 y4 y5 y6 y7
   unfold vt.l1
   repeat' first
   | (with_reducible exact ih0 _ _ _ _ _)
   | (with_reducible exact ih1 _ _ _ _ _ _ _ _)
   | (with_reducible exact vH.mono _ _ _)
   | (with_reducible first | exact vP.refl _ | exact vP.none _ | apply vP.ite | refine vP.bind ?_ fun _ => ?_)
theorem vt.mono : ∀ a0 a1 a2 k, vP (vt.f k a0 a1 a2) (vt.f (k + 1) a0 a1 a2) := by
 intro a0 a1 a2 k
 obtain ⟨ih0, ih1⟩ := vt.wj k
 unfold vt.f
 repeat' first
   | (with_reducible exact ih0 _ _ _ _ _)
   | (with_reducible exact ih1 _ _ _ _ _ _ _ _)
   | (with_reducible exact vH.mono _ _ _)
   | (with_reducible first | exact vP.refl _ | exact vP.none _ | apply vP.ite | refine vP.bind ?_ fun _ => ?_)
def vt.T5 : Bool × List (List Nat × List Nat) := (true, [([], []), ([], []), ([1], [1]), ([0, 2], [0, 2]), ([], []), ([], []), ([4, 5, 3], [4, 5]), ([3, 6, 6], [3, 6]), ([7], [7]), ([], [])])
def vt.B5 : List Nat := [0, 0, 2, 7, 0, 0, 63, 127, 255, 0]
theorem vt.tab5 : yN .any (opsOf Tryd.f29 5) = vt.T5 := by kernel_rfl
theorem vt.j8 : yi vt.T5.2 vt.B5 = true := by kernel_rfl
set_option maxHeartbeats 8000000 in
set_option maxRecDepth 100000 in
theorem vt.calls (k : Nat) (a0_0 : Int) (a0_1 : Int) (A0_2 : Option Addr) (c0_2 : Nat) (l0_2 : List Int) (r : List Int) (w : World) (hr0_2 : Kd.C (Kd.int .u8) w A0_2 l0_2.length l0_2) (hc0_2 : l0_2.length ≤ c0_2) (h : vt.f k a0_0 a0_1 l0_2 = some r) :
  Calls Tryd.prog 29 #[.agg #[.int .i64 a0_0, .int .i64 a0_1, .slice A0_2 l0_2.length c0_2]] w fun e w' => ∃ v0_ : Value, e = .returned (v0_) ∧ Kd.R (Kd.int .u8) 5 w' w.heap.size (fun _ => True) v0_ r ∧ Below w.heap.size w w' := by
 have hu48 := Tryd.underlying48
 have hu37 := Tryd.underlying37
 have HR0_2 := Aside0.mk hr0_2
 have HC0_2 := Aside0.mk hc0_2
 clear hr0_2 hc0_2
 have HB := Aside0.mk (Below.refl w.heap.size w)
 have H : (vt.l0 k ([] : List Int) 0 a0_0 a0_1 l0_2) = some r := h
 clear h
 have H' := Aside0.mk H
 clear H
 go_enter Tryd.func29, Tryd.ntmps29
 go_wp2_with (first | ((with_reducible refine gd 1 rfl ?_); refine bx 1 #[.int .i64 a0_0, .int .i64 a0_1, .slice A0_2 l0_2.length c0_2] 48 rfl rfl ?_; intro gb479 hg w2 hbox hb; have n_ := aC (bs hb) (aC hbox (aC (gz hg) (aE (gz hg)))); clear HB; obtain ⟨HB, BK479, GW479, GE479⟩ := n_; clear hb hbox hg))
 go_loopg [3, 4] k (fun kq v3 v4 w' => ∃ (x3_1 : List Int) (x4_1 : Int), v4 = .int .i64 x4_1 ∧ Aside0 (vt.l0 kq x3_1 x4_1 a0_0 a0_1 l0_2 = some r) ∧ Aside0 (kq ≤ k) ∧ Aside0 (Kd.R (Kd.int .u8) 5 w' w.heap.size (fun _ => True) v3 x3_1) ∧ Aside0 (w'.heap[gb479]? = some (.cells #[.int .i64 a0_0, .int .i64 a0_1, (.slice A0_2 l0_2.length c0_2)] 48 (0, 0))) ∧ Aside0 (Below w.heap.size w w'))
 case atStart => exact ⟨(([] : List Int)), (0), rq, H', ⟨Nat.le_refl _⟩, ⟨by first | exact Kd.yC _ _ _ _ _ | exact Kd.za _ _ _ _ _ | exact Kd.y9 _ _ _ _ _ | exact Kd.zb _ _ _ _ _ | exact Kd.yZ _ _ _ _ _⟩, ⟨bU BK479.out⟩, ⟨bl⟩⟩
 case round =>
  clear H'
  obtain ⟨x3_1, x4_1, rfl, HA, HK1, HO_3, BK479, HB⟩ := hrel
  cases gk with
  | zero => exact absurd HA.out (by simp [vt.l0])
  | succ k1 =>
   have H := HA.out
   clear HA
   simp only [vt.l0] at H
   rcases iL H with H1 | H1 <;> clear H <;> obtain ⟨H, c3b0⟩ := H1
   ·obtain ⟨t480, A4, H⟩ := oB H
    try dsimp only at H
    obtain ⟨t483, A5, H⟩ := oB H
    try dsimp only at H
    obtain ⟨t486, A6, H⟩ := oB H
    try dsimp only at H
    have H' := Aside0.mk H
    clear H
    obtain ⟨hcz7_0, hcz7_1, hcz7_2, hfz7_0, hfz7_1, hfz7_2⟩ := zo BK479.out
    try go_wp2
    have n_ := aC (Kd.jG HO_3.out) (aC (vn BK479.out) (aE (vG HB.out)))
    clear HO_3 BK479 HB
    obtain ⟨HO_3, BK479, HB⟩ := n_
    refine st 10 (fun w' => w'.cell? ⟨gb479, 0, none⟩ = some (.int .i64 a0_0) ∧ w'.cell? ⟨gb479, 1, none⟩ = some (.int .i64 a0_1) ∧ w'.cell? ⟨gb479, 2, none⟩ = some (.slice A0_2 l0_2.length c0_2)) [] (bv 10 0) vt.tab5 vt.j8 ⟨jq BK479.out, jk BK479.out, jC BK479.out⟩ (fun hHeld HT_ HW_ => ?_)
    generalize wr.drew = w8 at HO_3 BK479 HB hHeld ⊢
    refine pu 1 14 (bv 10 2) HT_ rfl rfl ?_
    refine pu 2 15 (bv 10 6) HT_ rfl rfl ?_
    refine pu 5 18 (bv 10 38) HT_ rfl rfl ?_
    refine pu 9 22 (bv 10 550) HT_ rfl rfl ?_
    refine tk 0 13 (bv 10 551) HT_ HW_ hHeld rfl rfl (by rintro w' ⟨s0, s1, s2⟩; exact yl) ?_
    refine tk 4 17 (bv 10 567) HT_ HW_ hHeld rfl rfl (by rintro w' ⟨s0, s1, s2⟩; exact yl) ?_
    refine yz (i := 3) (N := some 16) (bv 10 575) rfl rfl (xq HT_.out (by kernel_rfl)) (by decide) (fun K hK => ?_)
    refine gK Tryd.func52 rfl #[.agg #[.int .i64 a0_0, .int .i64 a0_1, .slice A0_2 l0_2.length c0_2], .int .i64 (wrap64 (x4_1 - 1))] rfl rfl ?_
    with_reducible refine (xf.calls a0_0 a0_1 _ _ l0_2 (wrap64 (x4_1 - 1)) t480 _ ?side1 ?side2 A4.out).mono ?_
    (case side1 => exact cU (Kd.wO HR0_2.out HB.out))
    (case side2 => exact HC0_2.out)
    rintro e w9 ⟨v481, rfl, ho0, hb⟩
    refine ⟨_, rfl, ?_⟩
    have n_ := aC (Kd.R_elder' (rU HO_3.out) (Kd.xi ho0) hb) (aC (Kd.vX (Kd.R_new' ho0 (Kd.xX (rU HO_3.out))) bz) (aC (vu (bU BK479.out) hb) (aE (bs hb))))
    clear HO_3 BK479 HB
    obtain ⟨HO_3, HO482, BK479, HB⟩ := n_
    (try clear hb)
    (try clear hb2)
    (try clear hk)
    (try clear hi)
    (try clear ho0)
    refine hK.out _ _ ⟨jq BK479.out, jk BK479.out, jC BK479.out⟩ (fun hHeld => ?_)
    clear hK K
    refine nm (some 16) ?_
    refine yz (i := 6) (N := some 19) (bv 10 639) rfl rfl (xq HT_.out (by kernel_rfl)) (by decide) (fun K hK => ?_)
    refine gK Tryd.func52 rfl #[.agg #[.int .i64 a0_0, .int .i64 a0_1, .slice A0_2 l0_2.length c0_2], .int .i64 x4_1] rfl rfl ?_
    with_reducible refine (xf.calls a0_0 a0_1 _ _ l0_2 x4_1 t483 _ ?side1 ?side2 A5.out).mono ?_
    (case side1 => exact cU (Kd.wO HR0_2.out HB.out))
    (case side2 => exact HC0_2.out)
    rintro e w10 ⟨v484, rfl, ho0, hb⟩
    refine ⟨_, rfl, ?_⟩
    have n_ := aC (Kd.R_elder' (rU HO_3.out) (Kd.xi ho0) hb) (aC (Kd.R_elder' (rU HO482.out) (Kd.xi ho0) hb) (aC (Kd.vX (Kd.R_new' (Kd.R_new' ho0 (Kd.xX (rU HO_3.out))) (Kd.xX (rU HO482.out))) bz) (aC (vu (bU BK479.out) hb) (aE (bs hb)))))
    clear HO_3 HO482 BK479 HB
    obtain ⟨HO_3, HO482, HO485, BK479, HB⟩ := n_
    (try clear hb)
    (try clear hb2)
    (try clear hk)
    (try clear hi)
    (try clear ho0)
    obtain ⟨Ao11, co11, eo11⟩ := Kd.wq HO482.out
    (first | subst eo11 | (injection eo11 with f1_ f2_ f3_; have f4_ := f1_.symm; have f5_ := f3_.symm; clear f1_ f2_ f3_; subst f4_; subst f5_))
    obtain ⟨Ao12, co12, eo12⟩ := Kd.wq HO485.out
    (first | subst eo12 | (injection eo12 with f1_ f2_ f3_; have f4_ := f1_.symm; have f5_ := f3_.symm; clear f1_ f2_ f3_; subst f4_; subst f5_))
    refine hK.out _ _ ⟨jq BK479.out, jk BK479.out, jC BK479.out⟩ (fun hHeld => ?_)
    clear hK K
    refine nm (some 19) ?_
    refine yz (i := 7) (N := some 20) (bv 10 767) rfl rfl (xq HT_.out (by kernel_rfl)) (by decide) (fun K hK => ?_)
    refine gK Tryd.func18 rfl #[.slice Ao11 t480.length co11, .slice Ao12 t483.length co12] rfl rfl ?_
    with_reducible refine (vH.calls k1 _ _ t480 _ _ t483 t486 _ ?side1 ?side2 ?side3 ?side4 A6.out).mono ?_
    (case side1 => exact cU (Kd.R_reads' HO482.out).2.2)
    (case side2 => exact (Kd.R_reads' HO482.out).2.1)
    (case side3 => exact cU (Kd.R_reads' HO485.out).2.2)
    (case side4 => exact (Kd.R_reads' HO485.out).2.1)
    rintro e w13 ⟨v487, rfl, ho0, hb⟩
    refine ⟨_, rfl, ?_⟩
    have n_ := aC (Kd.vT (rU HO_3.out) hb) (aC (Kd.vT (rU HO482.out) hb) (aC (Kd.vT (rU HO485.out) hb) (aC (Kd.S_lower (Kd.S_new' (Kd.S_new' (Kd.S_new' ho0 (Kd.xX (rU HO_3.out))) (Kd.xX (rU HO482.out))) (Kd.xX (rU HO485.out))) bz) (aC (vu (bU BK479.out) hb) (aE (bs hb))))))
    clear HO_3 HO482 HO485 BK479 HB
    obtain ⟨HO_3, HO482, HO485, HO488, BK479, HB⟩ := n_
    (try clear hb)
    (try clear hb2)
    (try clear hk)
    (try clear hi)
    (try clear ho0)
    obtain ⟨Ao14, co14, eo14⟩ := Kd.S_slice HO488.out
    (first | subst eo14 | (injection eo14 with f1_ f2_ f3_; have f4_ := f1_.symm; have f5_ := f3_.symm; clear f1_ f2_ f3_; subst f4_; subst f5_))
    refine hK.out _ _ ⟨jq BK479.out, jk BK479.out, jC BK479.out⟩ (fun hHeld => ?_)
    clear hK K
    refine nm (some 20) ?_
    refine pu 8 21 (bv 10 1023) HT_ rfl rfl ?_
    refine yO (xS HT_.out (by kernel_rfl)) ?_
    try go_wp2
    go_loopg [3, 22] k1 (fun kq v3 v22 w' => ∃ (x3_2 : List Int) (x22_2 : Int), v22 = .int .i64 x22_2 ∧ Aside0 (vt.l1 kq x3_2 x4_1 t486 (t486.length : Int) x22_2 a0_0 a0_1 l0_2 = some r) ∧ Aside0 (kq ≤ k1) ∧ Aside0 (Kd.R (Kd.int .u8) 5 w' w.heap.size (fun _ => True) v3 x3_2) ∧ Aside0 (Kd.S k37 37 w' w.heap.size (fun k_ => some k_ ≠ (v3 : Value).ownBlock) (.slice Ao14 t486.length co14) t486) ∧ Aside0 (w'.heap[gb479]? = some (.cells #[.int .i64 a0_0, .int .i64 a0_1, (.slice A0_2 l0_2.length c0_2)] 48 (0, 0))) ∧ Aside0 (Below w.heap.size w w'))
    case atStart => exact ⟨(x3_1), (0), rq, H', ⟨Nat.le_refl _⟩, ⟨rU (Kd.vY HO_3.out (fun _ hk => trivial))⟩, ⟨by (with_reducible repeat (first | apply Kd.xP | apply Kd.xM | apply Kd.yn)); exact Kd.yR HO488.out (fun _ hk => hk.1.1.2)⟩, ⟨bU BK479.out⟩, ⟨bl⟩⟩
    case round =>
     clear H'
     obtain ⟨x3_2, x22_2, rfl, HA, HK2, HO_3, HO_20, BK479, HB⟩ := hrel
     cases gk with
     | zero => exact absurd HA.out (by simp [vt.l1])
     | succ k2 =>
      have H := HA.out
      clear HA
      simp only [vt.l1] at H
      rcases iL H with H1 | H1 <;> clear H <;> obtain ⟨H, c15b0⟩ := H1
      ·by_cases c16 : 0 ≤ x22_2
       ·rw [if_pos c16] at H
        have c16b0 := decide_eq_true c16
        clear c16
        by_cases c17 : x22_2 < (t486.length : Int)
        ·rw [if_pos c17] at H
         have c17b0 := decide_eq_true c17
         clear c17
         by_cases c18 : x3_2.length + ((xJ t486 x22_2).f1).length < 140737488355328
         ·rw [if_pos c18] at H
          have LMc18 := Aside0.mk c18
          clear c18
          obtain ⟨y491, hy_⟩ : ∃ y_ : List Int, y_ = (x3_2 ++ ((xJ t486 x22_2).f1)) := ⟨_, rfl⟩
          replace H : (vt.l1 k2 y491 x4_1 t486 (t486.length : Int) (wrap64 (x22_2 + 1)) a0_0 a0_1 l0_2) = some r := rh
          have Ny491 := aE hy_
          clear hy_
          have H' := Aside0.mk H
          clear H
          have p489 : 0 ≤ (x22_2 : Int) := dt
          have q489 : x22_2 < (t486.length : Int) := dt
          obtain ⟨ad489, A489_1, c489_1, e489, hx489_0, hx489_1, hx489_2, hx489_3, hl489_1, hi489_1⟩ := at_T37 (Kd.S_reads' HO_20.out).2.2 x22_2 p489 q489
          cases e489
          obtain ⟨ce489, hce489, hMe489, hcc489⟩ := Kd.S_get HO_20.out z37 x22_2 p489 (by first | exact q489 | exact dt | (have e_ := (Kd.S_reads' HO_20.out).1; omega))
          obtain ⟨ve489_1, rfl, ge489_1⟩ := k37_openM hMe489
          have hv489_1 := hcc489 1 _ rfl
          rw [yp _ _ 1 (by omega)] at hv489_1
          replace hv489_1 := Option.some.inj (hv489_1.symm.trans hx489_1)
          rw [hv489_1] at ge489_1
          have HL489_1 := Aside0.mk (show Kd.R (Kd.int .u8) 5 _ _ _ _ ((xJ t486 x22_2).f1) from ge489_1)
          clear hv489_1 ge489_1
          clear hcc489 hce489
          have HR489_1 := Aside0.mk hi489_1
          have HC489_1 := Aside0.mk hl489_1
          clear hi489_1 hl489_1
          replace p489 := eq_true p489
          replace q489 := eq_true q489
          go_wp2_with (first | ((with_reducible refine gd 6 rfl ?_); refine bx 6 #[.string (⟨#[]⟩ : ByteArray), .slice none 0 0, .int .i64 0, .int .i64 0] 37 rfl rfl ?_; intro gb490 hg w19 hbox hb; have n_ := aC (Kd.vT (rU HO_3.out) hb) (aC (Kd.jj (Kd.j9 (by (with_reducible repeat (first | apply Kd.xP | apply Kd.xM | apply Kd.yn)); exact HO_20.out) gb490 (Nat.le_of_eq hg.symm)) hb) (aC (Kd.vT (rU HL489_1.out) hb) (aC (vu (bU BK479.out) hb) (aC (Kd.wO (by repeat (first | (with_reducible exact HR489_1.out) | (with_reducible refine Kd.yk ?_ _) | (with_reducible refine Kd.yj ?_ _) | (with_reducible refine Kd.yI ?_) | exact HR489_1.out)) hb) (aC (bs hb) (aC hbox (aC (gz hg) (aC (gz hg) (aC (gn hg (bU BK479.out)) (aE (gm hg (bU BK479.out)))))))))))); clear HO_3 HO_20 HL489_1 BK479 HR489_1 HB; obtain ⟨HO_3, HO_20, HL489_1, BK479, HR489_1, HB, BK490, GW490, GE490, NB479_490, NB490_479⟩ := n_; clear hb hbox hg; have hnb20 := NB490_479.out; have hnc20 := NB479_490.out; obtain ⟨hcz21_0, hcz21_1, hcz21_2, hcz21_3, hfz21_0, hfz21_1, hfz21_2, hfz21_3⟩ := xC BK490.out) | ((with_reducible refine xb (b := .append) (xs := #[.tmp 26, .tmp 28]) rfl ?_); at_builtin; refine Kd.xW (Kd.int .u8) (w0 := w) w.heap.size rfl (.tmp 26) (.tmp 28) 22 5 (.int .u8 0) 1 rfl Tryd.underlying22 info5 rfl (by decide) (by omega) u3 x3_2 ((xJ t486 x22_2).f1) _ _ _ (fun _ => True) (fun _ => False) rfl rfl ?aO ?aR (fun _ _ h => h) (fun _ h => h.elim) ?aF ?aB ?aS ?aL ?_; (case aR => repeat (first | exact ((Kd.R_reads' (rU (Kd.vY (Kd.wI (p := ⟨gb490, 3, none⟩) (Kd.wI (p := ⟨gb490, 2, none⟩) (Kd.wI (p := ⟨gb490, 1, none⟩) (Kd.wI (p := ⟨gb490, 0, none⟩) (Kd.xu HL489_1.out BK490.out (by decide)) (fun _ hk => hk.2) (.string ((xJ t486 x22_2).f0))) (fun _ hk => hk.2) (.slice A489_1 ((xJ t486 x22_2).f1).length c489_1)) (fun _ hk => hk.2) (.int .i64 ((xJ t486 x22_2).f2))) (fun _ hk => hk.2) (.int .i64 ((xJ t486 x22_2).f3))) (fun _ h_ => h_.1)))).2.2) | (with_reducible refine Kd.yk ?_ _) | (with_reducible refine Kd.yj ?_ _) | (with_reducible refine Kd.yI ?_))); (case aB => exact bl); (case aF => exact (fun _ _ => trivial)); (case aO => exact (rU (Kd.vY (Kd.wI (p := ⟨gb490, 3, none⟩) (Kd.wI (p := ⟨gb490, 2, none⟩) (Kd.wI (p := ⟨gb490, 1, none⟩) (Kd.wI (p := ⟨gb490, 0, none⟩) (Kd.xu HO_3.out BK490.out (by decide)) (fun _ hk => hk.2) (.string ((xJ t486 x22_2).f0))) (fun _ hk => hk.2) (.slice A489_1 ((xJ t486 x22_2).f1).length c489_1)) (fun _ hk => hk.2) (.int .i64 ((xJ t486 x22_2).f2))) (fun _ hk => hk.2) (.int .i64 ((xJ t486 x22_2).f3))) (fun _ hk => trivial)))); (case aS => exact bz); (case aL => have := LMc18.out; omega); intro v492 w22 ho hb hg hat; rw [← Ny491.out] at ho; have n_ := aC (Kd.S_after (ok := (fun k_ => k_ ≠ gb490)) (by (with_reducible repeat (first | apply Kd.xP | apply Kd.xM | apply Kd.yn)); exact Kd.yR (Kd.zI (p := ⟨gb490, 3, none⟩) (Kd.zI (p := ⟨gb490, 2, none⟩) (Kd.zI (p := ⟨gb490, 1, none⟩) (Kd.zI (p := ⟨gb490, 0, none⟩) (Kd.yR HO_20.out (fun k_ hk => (⟨hk, hk.2⟩ : _ ∧ k_ ≠ gb490))) (fun _ hk => hk.2) (.string ((xJ t486 x22_2).f0))) (fun _ hk => hk.2) (.slice A489_1 ((xJ t486 x22_2).f1).length c489_1)) (fun _ hk => hk.2) (.int .i64 ((xJ t486 x22_2).f2))) (fun _ hk => hk.2) (.int .i64 ((xJ t486 x22_2).f3))) (fun _ hk => ⟨hk.1.2, hk.1.1⟩)) hg hat) (aC (xx (g := gb479) (o := .cells #[.int .i64 a0_0, .int .i64 a0_1, .slice A0_2 l0_2.length c0_2] 48 (0, 0)) (by (with_reducible repeat first | apply vl | apply vn | apply vm); refine vV ?_ NB479_490.out _; (with_reducible repeat first | apply vl | apply vn | apply vm); refine vV ?_ NB479_490.out _; (with_reducible repeat first | apply vl | apply vn | apply vm); refine vV ?_ NB479_490.out _; (with_reducible repeat first | apply vl | apply vn | apply vm); refine vV ?_ NB479_490.out _; (with_reducible repeat first | apply vl | apply vn | apply vm); exact BK479.out) hg (Kd.jh HO_3.out BK479.out (by decide))) (aC (Kd.yU (ok := (fun k_ => some k_ ≠ (.slice (some ad489) t486.length co14 : Value).ownBlock)) (rU (Kd.vY (Kd.wI (p := ⟨gb490, 3, none⟩) (Kd.wI (p := ⟨gb490, 2, none⟩) (Kd.wI (p := ⟨gb490, 1, none⟩) (Kd.wI (p := ⟨gb490, 0, none⟩) (Kd.xu HL489_1.out BK490.out (by decide)) (fun _ hk => hk.2) (.string ((xJ t486 x22_2).f0))) (fun _ hk => hk.2) (.slice A489_1 ((xJ t486 x22_2).f1).length c489_1)) (fun _ hk => hk.2) (.int .i64 ((xJ t486 x22_2).f2))) (fun _ hk => hk.2) (.int .i64 ((xJ t486 x22_2).f3))) (fun _ hk => ⟨hk.1.2, hk.1.1⟩))) hg hat) (aC (xx (g := gb490) (o := .cells #[.string ((xJ t486 x22_2).f0), .slice A489_1 ((xJ t486 x22_2).f1).length c489_1, .int .i64 ((xJ t486 x22_2).f2), .int .i64 ((xJ t486 x22_2).f3)] 37 (0, 0)) (by (with_reducible repeat first | apply vl | apply vn | apply vm); refine vv (cs := #[.string ((xJ t486 x22_2).f0), .slice A489_1 ((xJ t486 x22_2).f1).length c489_1, .int .i64 ((xJ t486 x22_2).f2), .int .i64 0]) ?_ 3 _ rfl; (with_reducible repeat first | apply vl | apply vn | apply vm); refine vv (cs := #[.string ((xJ t486 x22_2).f0), .slice A489_1 ((xJ t486 x22_2).f1).length c489_1, .int .i64 0, .int .i64 0]) ?_ 2 _ rfl; (with_reducible repeat first | apply vl | apply vn | apply vm); refine vv (cs := #[.string ((xJ t486 x22_2).f0), .slice none 0 0, .int .i64 0, .int .i64 0]) ?_ 1 _ rfl; (with_reducible repeat first | apply vl | apply vn | apply vm); refine vv (cs := #[.string (⟨#[]⟩ : ByteArray), .slice none 0 0, .int .i64 0, .int .i64 0]) ?_ 0 _ rfl; (with_reducible repeat first | apply vl | apply vn | apply vm); exact BK490.out) hg (Kd.jh HO_3.out BK490.out (by decide))) (aC hb (aE ho))))); clear HO_20 BK479 HL489_1 BK490 HB HO_3; obtain ⟨HO_20, BK479, HL489_1, BK490, HB, HO493⟩ := n_; clear ho hb hg hat))
          go_roundg k2
          case measure => have := HK1.out; have := HK2.out; omega
          case rel => exact ⟨(y491), (wrap64 (x22_2 + 1)), rq, H', ⟨by have := HK1.out; have := HK2.out; omega⟩, ⟨rU HO493.out⟩, ⟨by (with_reducible repeat (first | apply Kd.xP | apply Kd.xM | apply Kd.yn)); exact Kd.yR HO_20.out (fun _ hk => hk.2)⟩, ⟨bU BK479.out⟩, ⟨bl⟩⟩
         ·rw [if_neg c18] at H
          exact absurd H (by simp)
        ·rw [if_neg c17] at H
         exact absurd H (by simp)
       ·rw [if_neg c16] at H
        exact absurd H (by simp)
      ·have H' := Aside0.mk H
       clear H
       go_wp2
       go_roundg k2
       case measure => have := HK1.out; have := HK2.out; omega
       case rel => exact ⟨(x3_2), (wrap64 (x4_1 + 1)), rq, H', ⟨by have := HK1.out; have := HK2.out; omega⟩, ⟨rU HO_3.out⟩, ⟨bU BK479.out⟩, ⟨bl⟩⟩
   ·obtain rfl := Option.some.inj H
    obtain ⟨hcz23_0, hcz23_1, hcz23_2, hfz23_0, hfz23_1, hfz23_2⟩ := zo BK479.out
    go_wp2
    go_ret
    exact ⟨_, re, rU HO_3.out, bl⟩
def zd.f (a0 : Int) (a1 : Int) : Option (Int × Int × List Int × Int) := (yx.f a0 a1).bind fun t495 => (if t495 = true then (if 0 ≤ (wrap64 (a0 * a1)) then (if (wrap64 (a0 * a1) : Int).toNat ≤ 281474976710656 then (some (a0, a1, (List.replicate (wrap64 (a0 * a1) : Int).toNat 0), 0)) else (none)) else (none)) else (some (0, 0, ([] : List Int), 4)))
set_option maxHeartbeats 8000000 in
set_option maxRecDepth 100000 in
theorem zd.calls (a0 : Int) (a1 : Int) (r1 : Int) (r2 : Int) (r3 : List Int) (r4 : Int) (w : World) (h : zd.f a0 a1 = some (r1, r2, r3, r4)) :
  Calls Tryd.prog 94 #[.int .i64 a0, .int .i64 a1] w fun e w' => ∃ v2_ : Value, e = .returned (.tuple #[.agg #[.int .i64 r1, .int .i64 r2, v2_], .int .i64 r4]) ∧ Kd.R (Kd.int .u8) 5 w' w.heap.size (fun _ => True) v2_ r3 ∧ Below w.heap.size w w' := by
 have hu48 := Tryd.underlying48
 have HB := Aside0.mk (Below.refl w.heap.size w)
 have H := h
 unfold zd.f at H
 clear h
 obtain ⟨t495, A3, H⟩ := oB H
 try dsimp only at H
 by_cases c4 : t495 = true
 ·subst c4
  rw [if_pos rfl] at H
  obtain ⟨ji5, hji5⟩ : ∃ j_ : Int, (wrap64 (a0 * a1)) = j_ := ⟨_, rfl⟩
  replace H : (if 0 ≤ (ji5) then (if (ji5 : Int).toNat ≤ 281474976710656 then (some (a0, a1, (List.replicate (ji5 : Int).toNat 0), 0)) else (none)) else (none)) = some (r1, r2, r3, r4) := by first | (rw [hji5] at H; exact H) | (simp only [hji5] at H ⊢; exact H)
  (try rw [hji5] at A3)
  have hji5w : (IntKind.i64.wrap (a0 * a1)) = ji5 := (xD _).trans hji5
  by_cases c6 : 0 ≤ (ji5)
  ·rw [if_pos c6] at H
   have c6b0 := eq_true c6
   have c6b1 := decide_eq_true c6
   clear c6
   by_cases c7 : (ji5 : Int).toNat ≤ 281474976710656
   ·rw [if_pos c7] at H
    have c7b0 := eq_true c7
    have c7b1 := decide_eq_true c7
    clear c7
    obtain ⟨y496, hy_⟩ : ∃ y_ : List Int, y_ = (List.replicate (ji5 : Int).toNat 0) := ⟨_, rfl⟩
    replace H : (some (a0, a1, y496, 0)) = some (r1, r2, r3, r4) := rh
    have Ny496 := aE hy_
    clear hy_
    simp only [Option.some.injEq, Prod.mk.injEq] at H
    obtain ⟨rfl, rfl, rfl, rfl⟩ := H
    go_enter Tryd.func94, Tryd.ntmps94
    go_wp2_with (first | ((with_reducible refine gd 4 rfl ?_); refine bx 4 #[.int .i64 0, .int .i64 0, .slice none 0 0] 48 rfl rfl ?_; intro gb494 hg w8 hbox hb; have n_ := aC (bs hb) (aC hbox (aC (gz hg) (aE (gz hg)))); clear HB; obtain ⟨HB, BK494, GW494, GE494⟩ := n_; clear hb hbox hg) | (refine gF 75 8 Tryd.func75 #[.int .i64 a0, .int .i64 a1] rfl rfl ?_; (with_reducible refine (yx.calls a0 a1 true _ A3.out).mono ?_); rintro e w' ⟨rfl, ⟨nd, rfl⟩⟩; refine ⟨_, rfl, ?_⟩; (try (rw [yL w8]; generalize hq_ : World.drewN w8 _ = w8; have n0_ : Aside0 (w8.heap[gb494]? = some (.cells #[.int .i64 0, .int .i64 0, .slice none 0 0] 48 (0, 0))) := ⟨by rw [← hq_]; exact (bU BK494.out)⟩; have n1_ : Aside0 (Below w.heap.size w w8) := ⟨by rw [← hq_]; exact bl⟩; clear BK494 HB hq_; have BK494 := n0_; have HB := n1_; clear n0_ n1_))) | ((with_reducible refine gd 16 rfl ?_); refine Kd.jF (Kd.int .u8) _ 5 rfl (N := 16) rfl 22 _ _ rfl ji5 rfl rfl Tryd.underlying22 (.int .u8 0) 1 info5 rfl (by decide) (by omega) 0 (ok := fun _ => True) (okp := fun _ => True) rfl (fun _ hk => hk) trivial (dt) (Nat.le_trans (Nat.mul_le_mul_right _ (dt : ji5.toNat ≤ 281474976710656)) (by omega)) (Below.refl _ _) (Nat.le_refl _) ?_; intro v497 w9 ho10 hb hg_ hnew_; clear hg_ hnew_; (first | rw [← Ny496.out] at ho10 | (simp only [Int.reduceToNat] at ho10; rw [← Ny496.out] at ho10)); have n_ := aC (Kd.vX ho10 bz) (aC (vu (bU BK494.out) hb) (aE (bs hb))); clear BK494 HB; obtain ⟨HO498, BK494, HB⟩ := n_; clear hb ho10; obtain ⟨Ao11, co11, eo11⟩ := Kd.wq HO498.out; subst eo11; obtain ⟨hcz12_0, hcz12_1, hcz12_2, hfz12_0, hfz12_1, hfz12_2⟩ := zo BK494.out))
    refine bodyPost_ret (jw rfl _ _ gb494 48 #[.int .i64 a0, .int .i64 a1, .slice Ao11 y496.length co11] (0, 0) _ rfl (by (with_reducible repeat first | apply vl | apply vn | apply vm); refine vv (cs := #[.int .i64 a0, .int .i64 a1, .slice none 0 0]) ?_ 2 _ rfl; (with_reducible repeat first | apply vl | apply vn | apply vm); refine vv (cs := #[.int .i64 a0, .int .i64 0, .slice none 0 0]) ?_ 1 _ rfl; (with_reducible repeat first | apply vl | apply vn | apply vm); refine vv (cs := #[.int .i64 0, .int .i64 0, .slice none 0 0]) ?_ 0 _ rfl; (with_reducible repeat first | apply vl | apply vn | apply vm); exact BK494.out) Tryd.underlying48 rfl (by kernel_rfl)) rfl ?_
    exact ⟨_, by first | rfl | (simp [wL, wK] <;> rfl) | (simp only [← hji5]; first | rfl | (simp [wL, wK] <;> rfl)) | (simp [*, wL, wK] <;> rfl), rU (Kd.vY (Kd.wI (p := ⟨gb494, 2, none⟩) (Kd.wI (p := ⟨gb494, 1, none⟩) (Kd.wI (p := ⟨gb494, 0, none⟩) (Kd.xu HO498.out BK494.out (by decide)) (fun _ hk => hk.2) (.int .i64 a0)) (fun _ hk => hk.2) (.int .i64 a1)) (fun _ hk => hk.2) (.slice Ao11 y496.length co11)) (fun _ hk => trivial)), bl⟩
   ·rw [if_neg c7] at H
    exact absurd H (by simp)
  ·rw [if_neg c6] at H
   exact absurd H (by simp)
 ·replace c4 := Bool.eq_false_iff.mpr c4
  subst c4
  rw [if_neg Bool.false_ne_true] at H
  simp only [Option.some.injEq, Prod.mk.injEq] at H
  obtain ⟨rfl, rfl, rfl, rfl⟩ := H
  go_enter Tryd.func94, Tryd.ntmps94
  go_wp2_with (first | ((with_reducible refine gd 4 rfl ?_); refine bx 4 #[.int .i64 0, .int .i64 0, .slice none 0 0] 48 rfl rfl ?_; intro gb494 hg w13 hbox hb; have n_ := aC (bs hb) (aC hbox (aC (gz hg) (aE (gz hg)))); clear HB; obtain ⟨HB, BK494, GW494, GE494⟩ := n_; clear hb hbox hg) | (refine gF 75 8 Tryd.func75 #[.int .i64 a0, .int .i64 a1] rfl rfl ?_; (with_reducible refine (yx.calls a0 a1 false _ A3.out).mono ?_); rintro e w' ⟨rfl, ⟨nd, rfl⟩⟩; refine ⟨_, rfl, ?_⟩; (try (rw [yL w13]; generalize hq_ : World.drewN w13 _ = w13; have n0_ : Aside0 (w13.heap[gb494]? = some (.cells #[.int .i64 0, .int .i64 0, .slice none 0 0] 48 (0, 0))) := ⟨by rw [← hq_]; exact (bU BK494.out)⟩; have n1_ : Aside0 (Below w.heap.size w w13) := ⟨by rw [← hq_]; exact bl⟩; clear BK494 HB hq_; have BK494 := n0_; have HB := n1_; clear n0_ n1_)); obtain ⟨hcz14_0, hcz14_1, hcz14_2, hfz14_0, hfz14_1, hfz14_2⟩ := zo BK494.out))
  refine bodyPost_ret (jw rfl _ _ gb494 48 #[.int .i64 0, .int .i64 0, .slice none 0 0] (0, 0) _ rfl (by (with_reducible repeat first | apply vl | apply vn | apply vm); refine vv (cs := #[.int .i64 0, .int .i64 0, .slice none 0 0]) ?_ 2 _ rfl; (with_reducible repeat first | apply vl | apply vn | apply vm); refine vv (cs := #[.int .i64 0, .int .i64 0, .slice none 0 0]) ?_ 1 _ rfl; (with_reducible repeat first | apply vl | apply vn | apply vm); refine vv (cs := #[.int .i64 0, .int .i64 0, .slice none 0 0]) ?_ 0 _ rfl; (with_reducible repeat first | apply vl | apply vn | apply vm); exact BK494.out) Tryd.underlying48 rfl (by kernel_rfl)) rfl ?_
  exact ⟨_, re, by first | exact Kd.yC _ _ _ _ _ | exact Kd.za _ _ _ _ _ | exact Kd.y9 _ _ _ _ _ | exact Kd.zb _ _ _ _ _ | exact Kd.yZ _ _ _ _ _, bl⟩
end Go.Proofs.YtknclbodinfbeaaDoor.PRunsSame
