-- printed (wip/tools/myprint.py)
import Derived.Test.YtknclbodinfbeaaGreatDoorPRunsBackx0
import Derived.Test.YtknclbodinfbeaaGreatDoorPRunsBackx21
namespace Go.Proofs.YtknclbodinfbeaaGreatDoor.PRunsBack
open Go.RowKit Go.Proofs.YtknclbodinfbeaaGreatDoorW.PrintWords Go.Proofs.YtknclbodinfbeaaGreatDoorW.PrintLast Go.Proofs.YtknclbodinfbeaaGreatDoorW.PrintMore
attribute [local go_sem] yo ym yC yD xU xT yn yq
set_option linter.unusedVariables false
set_option linter.unusedSimpArgs false
set_option maxHeartbeats 8000000
set_option maxRecDepth 100000
def xR.f (a0 : Int) : Option (ByteArray) := if a0 = 0 then (some (⟨#[49]⟩ : ByteArray)) else (if a0 = 1 then (some (⟨#[48, 49, 49]⟩ : ByteArray)) else (if a0 = 2 then (some (⟨#[48, 48, 48, 48, 49, 49]⟩ : ByteArray)) else (if a0 = 3 then (some (⟨#[48, 48, 48, 48, 48, 49, 49]⟩ : ByteArray)) else (if a0 = (-1) then (some (⟨#[48, 49, 48]⟩ : ByteArray)) else (if a0 = (-2) then (some (⟨#[48, 48, 48, 48, 49, 48]⟩ : ByteArray)) else (some (⟨#[48, 48, 48, 48, 48, 49, 48]⟩ : ByteArray)))))))
theorem xR.calls (a0 : Int) (r : ByteArray) (w : World) (h : xR.f a0 = some r) :
  Calls Tryz.prog 76 #[.int .i64 a0] w fun e w' => e = .returned (.string r) ∧ wl w w' := by
 have H := h
 unfold xR.f at H
 clear h
 rcases iE H with H1 | H1 <;> clear H <;> obtain ⟨H, d, j, c2⟩ := H1
 ·obtain rfl := Option.some.inj H
  go_enter Tryz.func76, Tryz.ntmps76
  go_wp2
  go_ret
  exact ⟨by first | rfl | (simp; done) | (simp [*]; done), by repeat (first | exact wl.refl _ | apply wl.step)⟩
 ·rcases iE H with H1 | H1 <;> clear H <;> obtain ⟨H, k, q, c3⟩ := H1
  ·obtain rfl := Option.some.inj H
   go_enter Tryz.func76, Tryz.ntmps76
   go_wp2
   go_ret
   exact ⟨by first | rfl | (simp; done) | (simp [*]; done), by repeat (first | exact wl.refl _ | apply wl.step)⟩
  ·rcases iE H with H1 | H1 <;> clear H <;> obtain ⟨H, s, t, c4⟩ := H1
   ·obtain rfl := Option.some.inj H
    go_enter Tryz.func76, Tryz.ntmps76
    go_wp2
    go_ret
    exact ⟨by first | rfl | (simp; done) | (simp [*]; done), by repeat (first | exact wl.refl _ | apply wl.step)⟩
   ·rcases iE H with H1 | H1 <;> clear H <;> obtain ⟨H, u, x, c5⟩ := H1
    ·obtain rfl := Option.some.inj H
     go_enter Tryz.func76, Tryz.ntmps76
     go_wp2
     go_ret
     exact ⟨by first | rfl | (simp; done) | (simp [*]; done), by repeat (first | exact wl.refl _ | apply wl.step)⟩
    ·rcases iE H with H1 | H1 <;> clear H <;> obtain ⟨H, y, z, c6⟩ := H1
     ·obtain rfl := Option.some.inj H
      go_enter Tryz.func76, Tryz.ntmps76
      go_wp2
      go_ret
      exact ⟨by first | rfl | (simp; done) | (simp [*]; done), by repeat (first | exact wl.refl _ | apply wl.step)⟩
     ·rcases iE H with H1 | H1 <;> clear H <;> obtain ⟨H, B, D, c7⟩ := H1
      ·obtain rfl := Option.some.inj H
       go_enter Tryz.func76, Tryz.ntmps76
       go_wp2
       go_ret
       exact ⟨by first | rfl | (simp; done) | (simp [*]; done), by repeat (first | exact wl.refl _ | apply wl.step)⟩
      ·obtain rfl := Option.some.inj H
       go_enter Tryz.func76, Tryz.ntmps76
       go_wp2
       go_ret
       exact ⟨by first | rfl | (simp; done) | (simp [*]; done), by repeat (first | exact wl.refl _ | apply wl.step)⟩
def vQ.j0 : Nat → List Int → Int → Int → Int → Int → Bool → Option (ByteArray × List Int × Int × Int)
 | 0, _, _, _, _, _, _ => none
 | k + 1, x1, x2, x3, d, t, z => if z = true then ((yw.f t).bind fun u => ((xR.f t).bind fun x => ((vC.f k x).bind fun y => (some (u, y, d, wrap64 (1 - x3)))))) else ((vF.f k x1 d x3).bind fun e => ((vC.f k (⟨#[48, 48, 49]⟩ : ByteArray)).bind fun j => ((wo.f k (wrap64 (d - (mx x2 0))) x3).bind fun q => (if j.length + q.length < 140737488355328 then ((some (j ++ q : List Int)).bind fun r => ((wo.f k (wrap64 (e - d)) (wrap64 (1 - x3))).bind fun s => (if r.length + s.length < 140737488355328 then (some ((⟨#[102, 108, 97, 116]⟩ : ByteArray), (r ++ s), e, x3)) else (none)))) else (none)))))
def vQ.f (k : Nat) (l0 : List Int) (l1 : List Int) (a2 : Int) (a3 : Int) : Option (ByteArray × List Int × Int × Int) := (vP.f k l0 a2 a3).bind fun e => ((vF.f k l0 e a3).bind fun j => ((vF.f k l1 a2 (wrap64 (1 - a3))).bind fun d => (if j < d then ((vC.f k (⟨#[48, 48, 48, 49]⟩ : ByteArray)).bind fun q => (some ((⟨#[112, 97, 115, 115]⟩ : ByteArray), q, j, a3))) else (if (wrap64 (d - e)) ≥ (-3) then (vQ.j0 k l1 a2 a3 d (wrap64 (d - e)) (decide ((wrap64 (d - e)) ≤ 3))) else (vQ.j0 k l1 a2 a3 d (wrap64 (d - e)) false)))))
theorem vQ.wt : ∀ k, (∀ y0 y1 y2 y3 y4 y5, vK (vQ.j0 k y0 y1 y2 y3 y4 y5) (vQ.j0 (k + 1) y0 y1 y2 y3 y4 y5))
 | 0 => fun _ _ _ _ _ _ r h => by simp [vQ.j0] at h
 | k + 1 => by
  have ih0 := vQ.wt k
  ·intro y0 y1 y2 y3 y4 y5
   unfold vQ.j0
   repeat' first
   | (with_reducible exact ih0 _ _ _ _ _ _)
   | (with_reducible exact wo.mono _ _ _)
   | (with_reducible exact vC.mono _ _)
   | (with_reducible exact vP.mono _ _ _ _)
   | (with_reducible exact vF.mono _ _ _ _)
   | (with_reducible first | exact vK.refl _ | exact vK.none _ | apply vK.ite | apply vK.bind | intro)
theorem vQ.mono : ∀ a0 a1 a2 a3 k, vK (vQ.f k a0 a1 a2 a3) (vQ.f (k + 1) a0 a1 a2 a3) := by
 intro a0 a1 a2 a3 k
 have ih0 := vQ.wt k
 unfold vQ.f
 repeat' first
   | (with_reducible exact ih0 _ _ _ _ _ _)
   | (with_reducible exact wo.mono _ _ _)
   | (with_reducible exact vC.mono _ _)
   | (with_reducible exact vP.mono _ _ _ _)
   | (with_reducible exact vF.mono _ _ _ _)
   | (with_reducible first | exact vK.refl _ | exact vK.none _ | apply vK.ite | apply vK.bind | intro)
theorem vQ.calls (k : Nat) (A0 : Option Addr) (c0 : Nat) (l0 : List Int) (A1 : Option Addr) (c1 : Nat) (l1 : List Int) (a2 : Int) (a3 : Int) (r1 : ByteArray) (r2 : List Int) (r3 : Int) (r4 : Int) (w : World) (hr0 : Kd.C (Kd.int .u8) w A0 l0.length l0) (e3 : l0.length ≤ c0) (hr1 : Kd.C (Kd.int .u8) w A1 l1.length l1) (e4 : l1.length ≤ c1) (h : vQ.f k l0 l1 a2 a3 = some (r1, r2, r3, r4)) :
  Calls Tryz.prog 51 #[.slice A0 l0.length c0, .slice A1 l1.length c1, .int .i64 a2, .int .i64 a3] w fun e w' => ∃ e5 : Value, e = .returned (.agg #[.string r1, e5, .int .i64 r3, .int .i64 r4]) ∧ Kd.R (Kd.int .u8) 5 w' w.heap.size (fun _ => True) e5 r2 ∧ Below w.heap.size w w' := by
 have hu62 := Tryz.underlying62
 have b8 := aE hr0
 have b9 := aE e3
 clear hr0 e3
 have d5 := aE hr1
 have d6 := aE e4
 clear hr1 e4
 have HB := bR w
 have H := h
 unfold vQ.f at H
 clear h
 obtain ⟨s, A5, H⟩ := oB H
 try dsimp only at H
 obtain ⟨Y, A6, H⟩ := oB H
 try dsimp only at H
 obtain ⟨q, A7, H⟩ := oB H
 try dsimp only at H
 rcases iL H with H1 | H1 <;> clear H <;> obtain ⟨H, i9⟩ := H1
 ·obtain ⟨Z, A9, H⟩ := oB H
  try dsimp only at H
  simp only [Option.some.injEq, Prod.mk.injEq] at H
  obtain ⟨rfl, rfl, rfl, rfl⟩ := H
  go_enter Tryz.func51, Tryz.ntmps51
  go_wp2_with (first | ((with_reducible refine gd 8 rfl ?_); refine bx 8 #[.string (⟨#[]⟩ : ByteArray), .slice none 0 0, .int .i64 0, .int .i64 0] 62 rfl rfl ?_; intro j hg B hbox hb; have n_ := aC (bs hb) (aC hbox (aC (gz hg) (aE (gz hg)))); clear HB; obtain ⟨HB, d, d7, d8⟩ := n_; clear hb hbox hg) | ((with_reducible refine gf 72 rfl ?_); refine gL (some 18) rfl rfl Tryz.func72 rfl #[.slice A0 l0.length c0, .int .i64 a2, .int .i64 a3] rfl ?_; (with_reducible refine (vP.calls k _ _ l0 a2 a3 s _ ?side1 ?side2 A5.out).mono ?_); (case side1 => exact cU (Kd.wz b8.out HB.out)); (case side2 => exact b9.out); rintro e w' ⟨rfl, ⟨nd, rfl⟩⟩; refine ⟨_, rfl, ?_⟩; (try (rw [zh B]; generalize hq_ : World.drewN B _ = B; have u : Aside0 (B.heap[j]? = some (.cells #[.string (⟨#[]⟩ : ByteArray), .slice none 0 0, .int .i64 0, .int .i64 0] 62 (0, 0))) := ⟨by rw [← hq_]; exact (bU d.out)⟩; have x : Aside0 (Below w.heap.size w B) := ⟨by rw [← hq_]; exact bl⟩; clear d HB hq_; have d := u; have HB := x; clear u x))) | ((with_reducible refine gf 73 rfl ?_); refine gL (some 22) rfl rfl Tryz.func73 rfl #[.slice A0 l0.length c0, .int .i64 s, .int .i64 a3] rfl ?_; (with_reducible refine (vF.calls k _ _ l0 s a3 Y _ ?side1 ?side2 A6.out).mono ?_); (case side1 => exact cU (Kd.wz b8.out HB.out)); (case side2 => exact b9.out); rintro e w' ⟨rfl, ⟨nd, rfl⟩⟩; refine ⟨_, rfl, ?_⟩; (try (rw [zh B]; generalize hq_ : World.drewN B _ = B; have u : Aside0 (B.heap[j]? = some (.cells #[.string (⟨#[]⟩ : ByteArray), .slice none 0 0, .int .i64 0, .int .i64 0] 62 (0, 0))) := ⟨by rw [← hq_]; exact (bU d.out)⟩; have x : Aside0 (Below w.heap.size w B) := ⟨by rw [← hq_]; exact bl⟩; clear d HB hq_; have d := u; have HB := x; clear u x))) | ((with_reducible refine gf 73 rfl ?_); refine gL (some 27) rfl rfl Tryz.func73 rfl #[.slice A1 l1.length c1, .int .i64 a2, .int .i64 (wrap64 (1 - a3))] rfl ?_; (with_reducible refine (vF.calls k _ _ l1 a2 (wrap64 (1 - a3)) q _ ?side1 ?side2 A7.out).mono ?_); (case side1 => exact cU (Kd.wz d5.out HB.out)); (case side2 => exact d6.out); rintro e w' ⟨rfl, ⟨nd, rfl⟩⟩; refine ⟨_, rfl, ?_⟩; (try (rw [zh B]; generalize hq_ : World.drewN B _ = B; have u : Aside0 (B.heap[j]? = some (.cells #[.string (⟨#[]⟩ : ByteArray), .slice none 0 0, .int .i64 0, .int .i64 0] 62 (0, 0))) := ⟨by rw [← hq_]; exact (bU d.out)⟩; have x : Aside0 (Below w.heap.size w B) := ⟨by rw [← hq_]; exact bl⟩; clear d HB hq_; have d := u; have HB := x; clear u x))) | ((with_reducible refine gf 74 rfl ?_); refine gL (some 31) rfl rfl Tryz.func74 rfl #[.string (⟨#[48, 48, 48, 49]⟩ : ByteArray)] rfl ?_; (with_reducible refine (vC.calls k (⟨#[48, 48, 48, 49]⟩ : ByteArray) Z _ A9.out).mono ?_); rintro e j8 ⟨j2, rfl, L, hb⟩; refine ⟨_, rfl, ?_⟩; have n_ := aC (Kd.vS L bz) (aC (vp (bU d.out) hb) (aE (bs hb))); clear d HB; obtain ⟨b1, d, HB⟩ := n_; obtain ⟨a4, a5, e6⟩ := Kd.vY b1.out; subst e6; obtain ⟨e7, e8, e9, f0, f1, f2, f3, f4⟩ := xP d.out))
  refine bodyPost_ret (results_cell_row rfl _ _ j 62 #[.string (⟨#[112, 97, 115, 115]⟩ : ByteArray), .slice a4 Z.length a5, .int .i64 Y, .int .i64 a3] (0, 0) _ rfl (by (with_reducible repeat first | apply vm | apply vn | apply vl); refine vt (cs := #[.string (⟨#[112, 97, 115, 115]⟩ : ByteArray), .slice a4 Z.length a5, .int .i64 Y, .int .i64 0]) ?_ 3 _ rfl; (with_reducible repeat first | apply vm | apply vn | apply vl); refine vt (cs := #[.string (⟨#[112, 97, 115, 115]⟩ : ByteArray), .slice a4 Z.length a5, .int .i64 0, .int .i64 0]) ?_ 2 _ rfl; (with_reducible repeat first | apply vm | apply vn | apply vl); refine vt (cs := #[.string (⟨#[112, 97, 115, 115]⟩ : ByteArray), .slice none 0 0, .int .i64 0, .int .i64 0]) ?_ 1 _ rfl; (with_reducible repeat first | apply vm | apply vn | apply vl); refine vt (cs := #[.string (⟨#[]⟩ : ByteArray), .slice none 0 0, .int .i64 0, .int .i64 0]) ?_ 0 _ rfl; (with_reducible repeat first | apply vm | apply vn | apply vl); exact d.out) Tryz.underlying62 rfl (by kernel_rfl)) rfl ?_
  exact ⟨_, re, rU (Kd.vU (Kd.wK (p := ⟨j, 3, none⟩) (Kd.wK (p := ⟨j, 2, none⟩) (Kd.wK (p := ⟨j, 1, none⟩) (Kd.wK (p := ⟨j, 0, none⟩) (Kd.xH b1.out d.out (by decide)) (fun _ hk => hk.2) (.string (⟨#[112, 97, 115, 115]⟩ : ByteArray))) (fun _ hk => hk.2) (.slice a4 Z.length a5)) (fun _ hk => hk.2) (.int .i64 Y)) (fun _ hk => hk.2) (.int .i64 a3)) (fun _ hk => trivial)), bl⟩
 ·have b2 := aE H
  clear H
  go_enter Tryz.func51, Tryz.ntmps51
  go_upto_region 7 with (first | ((with_reducible refine gd 8 rfl ?_); refine bx 8 #[.string (⟨#[]⟩ : ByteArray), .slice none 0 0, .int .i64 0, .int .i64 0] 62 rfl rfl ?_; intro j hg j9 hbox hb; have n_ := aC (bs hb) (aC hbox (aC (gz hg) (aE (gz hg)))); clear HB; obtain ⟨HB, d, d7, d8⟩ := n_; clear hb hbox hg) | ((with_reducible refine gf 72 rfl ?_); refine gL (some 18) rfl rfl Tryz.func72 rfl #[.slice A0 l0.length c0, .int .i64 a2, .int .i64 a3] rfl ?_; (with_reducible refine (vP.calls k _ _ l0 a2 a3 s _ ?side1 ?side2 A5.out).mono ?_); (case side1 => exact cU (Kd.wz b8.out HB.out)); (case side2 => exact b9.out); rintro e w' ⟨rfl, ⟨nd, rfl⟩⟩; refine ⟨_, rfl, ?_⟩) | ((with_reducible refine gf 73 rfl ?_); refine gL (some 22) rfl rfl Tryz.func73 rfl #[.slice A0 l0.length c0, .int .i64 s, .int .i64 a3] rfl ?_; (with_reducible refine (vF.calls k _ _ l0 s a3 Y _ ?side1 ?side2 A6.out).mono ?_); (case side1 => exact cU (Kd.wz b8.out bl)); (case side2 => exact b9.out); rintro e w' ⟨rfl, ⟨nd, rfl⟩⟩; refine ⟨_, rfl, ?_⟩) | ((with_reducible refine gf 73 rfl ?_); refine gL (some 27) rfl rfl Tryz.func73 rfl #[.slice A1 l1.length c1, .int .i64 a2, .int .i64 (wrap64 (1 - a3))] rfl ?_; (with_reducible refine (vF.calls k _ _ l1 a2 (wrap64 (1 - a3)) q _ ?side1 ?side2 A7.out).mono ?_); (case side1 => exact cU (Kd.wz d5.out bl)); (case side2 => exact d6.out); rintro e w' ⟨rfl, ⟨nd, rfl⟩⟩; refine ⟨_, rfl, ?_⟩))
  (try simp only [Act.put, List.setIfInBounds_toArray, List.set_cons_zero, List.set_cons_succ])
  go_cut [43] (fun i3 wc => ∃ (kq : Nat) (M : Bool), i3 = .bool M ∧ Aside0 (vQ.j0 kq l1 a2 a3 q (wrap64 (q - s)) M = some (r1, r2, r3, r4)) ∧ Aside0 (kq ≤ k) ∧ Aside0 (wc.heap[j]? = some (.cells #[.string (⟨#[]⟩ : ByteArray), (.slice none 0 0), .int .i64 0, .int .i64 0] 62 (0, 0))) ∧ Aside0 (Below w.heap.size w wc))
  case first =>
   have H := b2.out
   clear b2
   rcases iL H with H1 | H1 <;> clear H <;> obtain ⟨H, X⟩ := H1
   ·(first | rw [X] | (simp only [xS, zK]; rw [X]) | skip)
    have H' := aE H
    clear H
    go_wp2
    go_meet
    case rel => exact ⟨_, (decide ((wrap64 (q - s)) ≤ 3)), rq, H', ⟨by first | omega | exact Nat.le_refl _⟩, ⟨bU d.out⟩, ⟨bl⟩⟩
   ·(first | rw [X] | (simp only [xS, zK]; rw [X]) | skip)
    have H' := aE H
    clear H
    go_wp2
    go_meet
    case rel => exact ⟨_, (false), rq, H', ⟨by first | omega | exact Nat.le_refl _⟩, ⟨bU d.out⟩, ⟨bl⟩⟩
  case rest =>
   clear b2
   try clear c1
   obtain ⟨kq, M, rfl, HA, j3, d, HB⟩ := hcut
   cases kq with
   | zero => exact absurd HA.out (by simp [vQ.j0])
   | succ kj13 =>
    have H := HA.out
    clear HA
    simp only [vQ.j0] at H
    by_cases d0 : M = true
    ·subst d0
     rw [if_pos rfl] at H
     obtain ⟨O, i4, H⟩ := oB H
     try dsimp only at H
     obtain ⟨b3, i5, H⟩ := oB H
     try dsimp only at H
     obtain ⟨a0, i6, H⟩ := oB H
     try dsimp only at H
     simp only [Option.some.injEq, Prod.mk.injEq] at H
     obtain ⟨rfl, rfl, rfl, rfl⟩ := H
     go_wp2_with (first | ((with_reducible refine gf 75 rfl ?_); refine gL (some 45) rfl rfl Tryz.func75 rfl #[.int .i64 (wrap64 (q - s))] rfl ?_; (with_reducible refine (yw.calls (wrap64 (q - s)) O _ i4.out).mono ?_); rintro e w' ⟨rfl, ⟨nd, rfl⟩⟩; refine ⟨_, rfl, ?_⟩; (try (rw [zh wc]; generalize hq_ : World.drewN wc _ = wc; have u : Aside0 (wc.heap[j]? = some (.cells #[.string (⟨#[]⟩ : ByteArray), .slice none 0 0, .int .i64 0, .int .i64 0] 62 (0, 0))) := ⟨by rw [← hq_]; exact (bU d.out)⟩; have x : Aside0 (Below w.heap.size w wc) := ⟨by rw [← hq_]; exact bl⟩; clear d HB hq_; have d := u; have HB := x; clear u x))) | ((with_reducible refine gf 76 rfl ?_); refine gL (some 47) rfl rfl Tryz.func76 rfl #[.int .i64 (wrap64 (q - s))] rfl ?_; (with_reducible refine (xR.calls (wrap64 (q - s)) b3 _ i5.out).mono ?_); rintro e w' ⟨rfl, ⟨nd, rfl⟩⟩; refine ⟨_, rfl, ?_⟩; (try (rw [zh wc]; generalize hq_ : World.drewN wc _ = wc; have u : Aside0 (wc.heap[j]? = some (.cells #[.string (⟨#[]⟩ : ByteArray), .slice none 0 0, .int .i64 0, .int .i64 0] 62 (0, 0))) := ⟨by rw [← hq_]; exact (bU d.out)⟩; have x : Aside0 (Below w.heap.size w wc) := ⟨by rw [← hq_]; exact bl⟩; clear d HB hq_; have d := u; have HB := x; clear u x))) | ((with_reducible refine gf 74 rfl ?_); refine gL (some 48) rfl rfl Tryz.func74 rfl #[.string b3] rfl ?_; (with_reducible refine (vC.calls kj13 b3 a0 _ i6.out).mono ?_); rintro e k0 ⟨j4, rfl, L, hb⟩; refine ⟨_, rfl, ?_⟩; have n_ := aC (Kd.vS L bz) (aC (vp (bU d.out) hb) (aE (bs hb))); clear d HB; obtain ⟨b4, d, HB⟩ := n_; obtain ⟨a6, a7, f5⟩ := Kd.vY b4.out; subst f5; obtain ⟨f6, f7, f8, f9, g0, g1, g2, g3⟩ := xP d.out))
     refine bodyPost_ret (results_cell_row rfl _ _ j 62 #[.string O, .slice a6 a0.length a7, .int .i64 q, .int .i64 (wrap64 (1 - a3))] (0, 0) _ rfl (by (with_reducible repeat first | apply vm | apply vn | apply vl); refine vt (cs := #[.string O, .slice a6 a0.length a7, .int .i64 q, .int .i64 0]) ?_ 3 _ rfl; (with_reducible repeat first | apply vm | apply vn | apply vl); refine vt (cs := #[.string O, .slice a6 a0.length a7, .int .i64 0, .int .i64 0]) ?_ 2 _ rfl; (with_reducible repeat first | apply vm | apply vn | apply vl); refine vt (cs := #[.string O, .slice none 0 0, .int .i64 0, .int .i64 0]) ?_ 1 _ rfl; (with_reducible repeat first | apply vm | apply vn | apply vl); refine vt (cs := #[.string (⟨#[]⟩ : ByteArray), .slice none 0 0, .int .i64 0, .int .i64 0]) ?_ 0 _ rfl; (with_reducible repeat first | apply vm | apply vn | apply vl); exact d.out) Tryz.underlying62 rfl (by kernel_rfl)) rfl ?_
     exact ⟨_, re, rU (Kd.vU (Kd.wK (p := ⟨j, 3, none⟩) (Kd.wK (p := ⟨j, 2, none⟩) (Kd.wK (p := ⟨j, 1, none⟩) (Kd.wK (p := ⟨j, 0, none⟩) (Kd.xH b4.out d.out (by decide)) (fun _ hk => hk.2) (.string O)) (fun _ hk => hk.2) (.slice a6 a0.length a7)) (fun _ hk => hk.2) (.int .i64 q)) (fun _ hk => hk.2) (.int .i64 (wrap64 (1 - a3)))) (fun _ hk => trivial)), bl⟩
    ·replace d0 := Bool.eq_false_iff.mpr d0
     subst d0
     rw [if_neg Bool.false_ne_true] at H
     obtain ⟨y, g4, H⟩ := oB H
     try dsimp only at H
     obtain ⟨T, g5, H⟩ := oB H
     try dsimp only at H
     obtain ⟨a8, D⟩ : ∃ j_ : Int, (mx a2 0) = j_ := ⟨_, rfl⟩
     replace H : ((wo.f kj13 (wrap64 (q - (a8))) a3).bind fun z => (if T.length + z.length < 140737488355328 then ((some (T ++ z : List Int)).bind fun J => ((wo.f kj13 (wrap64 (y - q)) (wrap64 (1 - a3))).bind fun t => (if J.length + t.length < 140737488355328 then (some ((⟨#[102, 108, 97, 116]⟩ : ByteArray), (J ++ t), y, a3)) else (none)))) else (none))) = some (r1, r2, r3, r4) := by first | (rw [D] at H; exact H) | (simp only [D] at H ⊢; exact H)
     (try rw [D] at g4)
     (try rw [D] at g5)
     have i2 : (if a2 < 0 then 0 else a2) = a8 := D
     obtain ⟨z, i7, H⟩ := oB H
     try dsimp only at H
     by_cases d1 : T.length + z.length < 140737488355328
     ·rw [if_pos d1] at H
      have d9 := aE d1
      clear d1
      obtain ⟨J, hy_⟩ : ∃ y_ : List Int, y_ = (T ++ z) := ⟨_, rfl⟩
      replace H : ((wo.f kj13 (wrap64 (y - q)) (wrap64 (1 - a3))).bind fun t => (if J.length + t.length < 140737488355328 then (some ((⟨#[102, 108, 97, 116]⟩ : ByteArray), (J ++ t), y, a3)) else (none))) = some (r1, r2, r3, r4) := rh
      have e0 := aE hy_
      clear hy_
      obtain ⟨t, i8, H⟩ := oB H
      try dsimp only at H
      by_cases d2 : J.length + t.length < 140737488355328
      ·rw [if_pos d2] at H
       have e1 := aE d2
       clear d2
       obtain ⟨a1, hy_⟩ : ∃ y_ : List Int, y_ = (J ++ t) := ⟨_, rfl⟩
       replace H : (some ((⟨#[102, 108, 97, 116]⟩ : ByteArray), a1, y, a3)) = some (r1, r2, r3, r4) := rh
       have e2 := aE hy_
       clear hy_
       simp only [Option.some.injEq, Prod.mk.injEq] at H
       obtain ⟨rfl, rfl, rfl, rfl⟩ := H
       go_wp2_with (first | ((with_reducible refine gf 73 rfl ?_); refine gL (some 56) rfl rfl Tryz.func73 rfl #[.slice A1 l1.length c1, .int .i64 q, .int .i64 a3] rfl ?_; (with_reducible refine (vF.calls kj13 _ _ l1 q a3 y _ ?side1 ?side2 g4.out).mono ?_); (case side1 => exact cU (Kd.wz d5.out HB.out)); (case side2 => exact d6.out); rintro e w' ⟨rfl, ⟨nd, rfl⟩⟩; refine ⟨_, rfl, ?_⟩; (try (rw [zh wc]; generalize hq_ : World.drewN wc _ = wc; have u : Aside0 (wc.heap[j]? = some (.cells #[.string (⟨#[]⟩ : ByteArray), .slice none 0 0, .int .i64 0, .int .i64 0] 62 (0, 0))) := ⟨by rw [← hq_]; exact (bU d.out)⟩; have x : Aside0 (Below w.heap.size w wc) := ⟨by rw [← hq_]; exact bl⟩; clear d HB hq_; have d := u; have HB := x; clear u x))) | ((with_reducible refine gf 74 rfl ?_); refine gL (some 57) rfl rfl Tryz.func74 rfl #[.string (⟨#[48, 48, 49]⟩ : ByteArray)] rfl ?_; (with_reducible refine (vC.calls kj13 (⟨#[48, 48, 49]⟩ : ByteArray) T _ g5.out).mono ?_); rintro e k1 ⟨g6, rfl, L, hb⟩; refine ⟨_, rfl, ?_⟩; have n_ := aC (Kd.vS L bz) (aC (vp (bU d.out) hb) (aE (bs hb))); clear d HB; obtain ⟨E, d, HB⟩ := n_) | ((with_reducible refine gf 30 rfl ?_); refine Ve (some 63) rfl rfl Tryz.func30 (by kernel_rfl) rfl #[.int .i64 (wrap64 (q - (a8))), .int .i64 a3] rfl (by (try simp only [List.map_toArray, List.map_cons, List.map_nil]); first | done | (simp only [D]; rfl) | rfl | (simp only [List.length_drop, List.length_take]; rfl)) ?_; (with_reducible refine (wo.calls kj13 (wrap64 (q - (a8))) a3 z _ i7.out).mono ?_); rintro e k2 ⟨j5, rfl, L, hb⟩; refine ⟨_, rfl, ?_⟩; have n_ := aC (Kd.R_elder' (rU E.out) (Kd.xc L) hb) (aC (Kd.vS (Kd.R_new' L (Kd.xW (rU E.out))) bz) (aC (vp (bU d.out) hb) (aE (bs hb)))); clear E d HB; obtain ⟨E, r, d, HB⟩ := n_; obtain ⟨b5, b6, g7⟩ := Kd.vY r.out; subst g7) | ((with_reducible refine wU (b := .append) (xs := #[.tmp 57, .tmp 63]) rfl ?_); at_builtin; refine Kd.xO (Kd.int .u8) (w0 := w) w.heap.size rfl (.tmp 57) (.tmp 63) 22 5 (.int .u8 0) 1 rfl Tryz.underlying22 info5 rfl (by decide) (by omega) g6 T z _ _ _ (fun k_ => some k_ ≠ (.slice b5 z.length b6 : Value).ownBlock) (fun _ => False) rfl rfl ?aO ?aR (fun _ _ h => h) (fun _ h => h.elim) ?aF ?aB ?aS ?aL ?_; (case aR => repeat (first | exact (Kd.R_reads' r.out).2.2 | (with_reducible refine Kd.yi ?_ _) | (with_reducible refine Kd.yg ?_ _) | (with_reducible refine Kd.yr ?_))); (case aB => exact bl); (case aF => exact (fun k_ hk => Kd.fresh' (Kd.xW (rU r.out)) k_ hk)); (case aO => exact (rU (Kd.vU E.out (fun _ hk => hk.2)))); (case aS => exact bz); (case aL => have := d9.out; omega); intro g8 k3 ho hb hg hat; rw [← e0.out] at ho; have n_ := aC (xz (bU d.out) hg (Kd.ja E.out d.out (by decide))) (aC (Kd.yG (ok := (fun _ => True)) (rU r.out) hg hat) (aC hb (aE ho))); clear d r HB E; obtain ⟨d, r, HB, G⟩ := n_; clear ho hb hg hat) | ((with_reducible refine gf 30 rfl ?_); refine gL (some 71) rfl rfl Tryz.func30 rfl #[.int .i64 (wrap64 (y - q)), .int .i64 (wrap64 (1 - a3))] rfl ?_; (with_reducible refine (wo.calls kj13 (wrap64 (y - q)) (wrap64 (1 - a3)) t _ i8.out).mono ?_); rintro e k4 ⟨j6, rfl, L, hb⟩; refine ⟨_, rfl, ?_⟩; have n_ := aC (Kd.R_elder' (rU r.out) (Kd.xc L) hb) (aC (Kd.R_elder' (rU G.out) (Kd.xc L) hb) (aC (Kd.vS (Kd.R_new' (Kd.R_new' L (Kd.xW (rU r.out))) (Kd.xW (rU G.out))) bz) (aC (vp (bU d.out) hb) (aE (bs hb))))); clear r G d HB; obtain ⟨r, G, I, d, HB⟩ := n_; obtain ⟨d3, d4, g9⟩ := Kd.vY I.out; subst g9) | ((with_reducible refine wU (b := .append) (xs := #[.tmp 65, .tmp 71]) rfl ?_); at_builtin; refine Kd.xO (Kd.int .u8) (w0 := w) w.heap.size rfl (.tmp 65) (.tmp 71) 22 5 (.int .u8 0) 1 rfl Tryz.underlying22 info5 rfl (by decide) (by omega) g8 J t _ _ _ (fun k_ => some k_ ≠ (.slice b5 z.length b6 : Value).ownBlock ∧ some k_ ≠ (.slice d3 t.length d4 : Value).ownBlock) (fun _ => False) rfl rfl ?aO ?aR (fun _ _ h => h) (fun _ h => h.elim) ?aF ?aB ?aS ?aL ?_; (case aR => repeat (first | exact (Kd.R_reads' I.out).2.2 | (with_reducible refine Kd.yi ?_ _) | (with_reducible refine Kd.yg ?_ _) | (with_reducible refine Kd.yr ?_))); (case aB => exact bl); (case aF => exact (fun k_ hk => ⟨Kd.fresh' (Kd.xW (rU r.out)) k_ hk, Kd.fresh' (Kd.xW (rU I.out)) k_ hk⟩)); (case aO => exact (rU G.out)); (case aS => exact bz); (case aL => have := e1.out; omega); intro j7 k5 ho hb hg hat; rw [← e2.out] at ho; have n_ := aC (xz (bU d.out) hg (Kd.ja G.out d.out (by decide))) (aC (Kd.yG (ok := (fun k_ => some k_ ≠ (.slice d3 t.length d4 : Value).ownBlock)) (rU (Kd.vU r.out (fun _ hk => ⟨hk.2, hk.1.2⟩))) hg hat) (aC (Kd.yG (ok := (fun k_ => some k_ ≠ (.slice b5 z.length b6 : Value).ownBlock)) (rU (Kd.vU I.out (fun _ hk => ⟨hk.1.2, hk.2⟩))) hg hat) (aC hb (aE ho)))); clear d r I HB G; obtain ⟨d, r, I, HB, b7⟩ := n_; clear ho hb hg hat; obtain ⟨a9, b0, h3⟩ := Kd.vY b7.out; subst h3; obtain ⟨h4, h5, h6, h7, h8, h9, i0, i1⟩ := xP d.out))
       refine bodyPost_ret (results_cell_row rfl _ _ j 62 #[.string (⟨#[102, 108, 97, 116]⟩ : ByteArray), .slice a9 a1.length b0, .int .i64 y, .int .i64 a3] (0, 0) _ rfl (by (with_reducible repeat first | apply vm | apply vn | apply vl); refine vt (cs := #[.string (⟨#[102, 108, 97, 116]⟩ : ByteArray), .slice a9 a1.length b0, .int .i64 y, .int .i64 0]) ?_ 3 _ rfl; (with_reducible repeat first | apply vm | apply vn | apply vl); refine vt (cs := #[.string (⟨#[102, 108, 97, 116]⟩ : ByteArray), .slice a9 a1.length b0, .int .i64 0, .int .i64 0]) ?_ 2 _ rfl; (with_reducible repeat first | apply vm | apply vn | apply vl); refine vt (cs := #[.string (⟨#[102, 108, 97, 116]⟩ : ByteArray), .slice none 0 0, .int .i64 0, .int .i64 0]) ?_ 1 _ rfl; (with_reducible repeat first | apply vm | apply vn | apply vl); refine vt (cs := #[.string (⟨#[]⟩ : ByteArray), .slice none 0 0, .int .i64 0, .int .i64 0]) ?_ 0 _ rfl; (with_reducible repeat first | apply vm | apply vn | apply vl); exact d.out) Tryz.underlying62 rfl (by kernel_rfl)) rfl ?_
       exact ⟨_, by first | rfl | (simp [wP, wQ] <;> rfl) | (simp only [← D]; first | rfl | (simp [wP, wQ] <;> rfl)) | (simp [*, wP, wQ] <;> rfl), rU (Kd.vU (Kd.wK (p := ⟨j, 3, none⟩) (Kd.wK (p := ⟨j, 2, none⟩) (Kd.wK (p := ⟨j, 1, none⟩) (Kd.wK (p := ⟨j, 0, none⟩) (Kd.xH b7.out d.out (by decide)) (fun _ hk => hk.2) (.string (⟨#[102, 108, 97, 116]⟩ : ByteArray))) (fun _ hk => hk.2) (.slice a9 a1.length b0)) (fun _ hk => hk.2) (.int .i64 y)) (fun _ hk => hk.2) (.int .i64 a3)) (fun _ hk => trivial)), bl⟩
      ·rw [if_neg d2] at H
       exact nB H
     ·rw [if_neg d1] at H
      exact nB H
def vN.l0 : Nat → List Int → List Int → List (jw) → Int → Int → Option ((List (jw)))
 | 0, _, _, _, _, _ => none
 | k + 1, x0, x1, x5, x6, x7 => if (x1.length : Int) > 0 then (if x6 < (x1.length : Int) then ((vQ.f k x0 x1 x6 x7).bind fun d => (if x5.length < 2513169434916 then (vN.l0 k x0 x1 (x5 ++ [(⟨d.1, d.2.1, d.2.2.1, d.2.2.2⟩ : jw)]) d.2.2.1 d.2.2.2) else (none))) else (some x5)) else (some x5)
def vN.f (k : Nat) (l0 : List Int) (l1 : List Int) : Option ((List (jw))) := vN.l0 k l0 l1 ([] : List (jw)) (-1) 0
theorem vN.wt : ∀ k, (∀ y0 y1 y2 y3 y4, vK (vN.l0 k y0 y1 y2 y3 y4) (vN.l0 (k + 1) y0 y1 y2 y3 y4))
 | 0 => fun _ _ _ _ _ r h => by simp [vN.l0] at h
 | k + 1 => by
  have ih0 := vN.wt k
  ·intro y0 y1 y2 y3 y4
   unfold vN.l0
   repeat' first
   | (with_reducible exact ih0 _ _ _ _ _)
   | (with_reducible exact vQ.mono _ _ _ _ _)
   | (with_reducible first | exact vK.refl _ | exact vK.none _ | apply vK.ite | apply vK.bind | intro)
theorem vN.mono : ∀ a0 a1 k, vK (vN.f k a0 a1) (vN.f (k + 1) a0 a1) := by
 intro a0 a1 k
 have ih0 := vN.wt k
 unfold vN.f
 repeat' first
   | (with_reducible exact ih0 _ _ _ _ _)
   | (with_reducible exact vQ.mono _ _ _ _ _)
   | (with_reducible first | exact vK.refl _ | exact vK.none _ | apply vK.ite | apply vK.bind | intro)
theorem vN.calls (k : Nat) (A0 : Option Addr) (c0 : Nat) (l0 : List Int) (A1 : Option Addr) (c1 : Nat) (l1 : List Int) (r : List (jw)) (w : World) (hr0 : Kd.C (Kd.int .u8) w A0 l0.length l0) (e5 : l0.length ≤ c0) (hr1 : Kd.C (Kd.int .u8) w A1 l1.length l1) (e6 : l1.length ≤ c1) (h : vN.f k l0 l1 = some r) :
  Calls Tryz.prog 31 #[.slice A0 l0.length c0, .slice A1 l1.length c1] w fun e w' => ∃ e7 : Value, e = .returned (e7) ∧ Kd.S k62 62 w' w.heap.size (fun _ => True) e7 r ∧ Below w.heap.size w w' := by
 have hu62 := Tryz.underlying62
 have e1 := aE hr0
 have e2 := aE e5
 clear hr0 e5
 have e3 := aE hr1
 have e4 := aE e6
 clear hr1 e6
 have HB := bR w
 have H : (vN.l0 k l0 l1 ([] : List (jw)) (-1) 0) = some r := h
 clear h
 have H' := aE H
 clear H
 go_enter Tryz.func31, Tryz.ntmps31
 go_wp2
 go_loopg [5, 6, 7] k (fun kq v5 v6 v7 w' => ∃ (E : List (jw)) (I : Int) (J : Int), v6 = .int .i64 I ∧ v7 = .int .i64 J ∧ Aside0 (vN.l0 kq l0 l1 E I J = some r) ∧ Aside0 (kq ≤ k) ∧ Aside0 (Kd.S k62 62 w' w.heap.size (fun _ => True) v5 E) ∧ Aside0 (Below w.heap.size w w'))
 case atStart => exact ⟨(([] : List (jw))), ((-1)), (0), rq, rq, H', ⟨Nat.le_refl _⟩, ⟨by first | exact Kd.yV _ _ _ _ _ | exact Kd.yR _ _ _ _ _ | exact Kd.yS _ _ _ _ _ | exact Kd.yP _ _ _ _ _ | exact Kd.yu _ _ _ _ _⟩, ⟨bl⟩⟩
 case round =>
  clear H'
  try clear c1
  obtain ⟨E, I, J, rfl, rfl, HA, e8, s, HB⟩ := hrel
  cases gk with
  | zero => exact absurd HA.out (by simp [vN.l0])
  | succ k1 =>
   have H := HA.out
   clear HA
   simp only [vN.l0] at H
   by_cases c3 : (l1.length : Int) > 0
   ·rw [if_pos c3] at H
    have e9 := decide_eq_true c3
    have f0 : decide (0 < l1.length) = true := decide_eq_true (by omega)
    clear c3
    rcases iL H with H1 | H1 <;> clear H <;> obtain ⟨H, f2⟩ := H1
    ·obtain ⟨⟨x, u, B, D⟩, A5, H⟩ := oB H
     try dsimp only at H
     by_cases c6 : E.length < 2513169434916
     ·rw [if_pos c6] at H
      have d5 := aE c6
      clear c6
      obtain ⟨d8, hy_⟩ : ∃ y_ : List (jw), y_ = (E ++ [(⟨x, u, B, D⟩ : jw)]) := ⟨_, rfl⟩
      replace H : (vN.l0 k1 l0 l1 d8 B D) = some r := rh
      have b5 := aE hy_
      clear hy_
      have H' := aE H
      clear H
      go_wp2_with (first | (go_at_call 51; (with_reducible refine (vQ.calls k1 _ _ l0 _ _ l1 I J x u B D _ ?side1 ?side2 ?side3 ?side4 A5.out).mono ?_); (case side1 => exact cU (Kd.wz e1.out HB.out)); (case side2 => exact e2.out); (case side3 => exact cU (Kd.wz e3.out HB.out)); (case side4 => exact e4.out); rintro e w7 ⟨d9, rfl, L, hb⟩; have n_ := aC (Kd.S_elder' (by (with_reducible repeat (first | apply Kd.yh | apply Kd.yb | apply Kd.yE)); exact s.out) (Kd.xc L) hb) (aC (Kd.vS L bz) (aE (bs hb))); clear s HB; obtain ⟨s, q, HB⟩ := n_) | ((with_reducible refine gd 8 rfl ?_); (try (refine xK (by rfl) ?_; dsimp only)); refine bx 8 #[.string (⟨#[]⟩ : ByteArray), .slice none 0 0, .int .i64 0, .int .i64 0] 62 rfl rfl ?_; intro d hg w8 hbox hb; have n_ := aC (Kd.jC (Kd.kG (by (with_reducible repeat (first | apply Kd.yh | apply Kd.yb | apply Kd.yE)); exact s.out) d (Nat.le_of_eq hg.symm)) hb) (aC (Kd.wg (rU q.out) hb) (aC (bs hb) (aC hbox (aC (gz hg) (aE (gz hg)))))); clear s q HB; obtain ⟨s, q, HB, j, d6, d7⟩ := n_; clear hb hbox hg; obtain ⟨b7, b8, b9, d0, d1, d2, d3, d4⟩ := xP j.out; obtain ⟨y, z, M⟩ := Kd.vY q.out; subst M) | ((with_reducible refine zM (t := 62) (p := 8) rfl ?_); (try (rw [zh w8]; generalize hq_ : World.drewN w8 _ = w8; have O := aE (Kd.S_at hq_ s.out); have T := aE (Kd.R_at hq_ q.out); have X := aE (blk_at hq_ j.out); have Y := aE (qR hq_ HB.out); clear hq_ s q j HB; have s := O; have q := T; have j := X; have HB := Y; clear O T X Y)); refine zz (t := 62) (p := 8) (v := ?vo_w11) (w1 := ((((w8.setCell ⟨d, 0, none⟩ (.string x)).setCell ⟨d, 1, none⟩ (.slice y u.length z)).setCell ⟨d, 2, none⟩ (.int .i64 B)).setCell ⟨d, 3, none⟩ (.int .i64 D))) ?hg ?ho ?hn ?hr ?_; (case ho => rfl); (case hg => rfl); (case hn => rfl); (case hr => first | (go_simp; done) | (go_simp; rfl)); intro G hw; have n_ := aC (show Kd.S k62 62 G w.heap.size (fun k_ => some k_ ≠ (.slice y u.length z : Value).ownBlock ∧ k_ ≠ d) u5 E from (by rw [hw]; exact (by (with_reducible repeat (first | apply Kd.yh | apply Kd.yb | apply Kd.yE)); exact Kd.zp (Kd.zX (p := ⟨d, 3, none⟩) (Kd.zX (p := ⟨d, 2, none⟩) (Kd.zX (p := ⟨d, 1, none⟩) (Kd.zX (p := ⟨d, 0, none⟩) (Kd.zp s.out (fun k_ hk => (⟨hk, hk.2⟩ : _ ∧ k_ ≠ d))) (fun _ hk => hk.2) (.string x)) (fun _ hk => hk.2) (.slice y u.length z)) (fun _ hk => hk.2) (.int .i64 B)) (fun _ hk => hk.2) (.int .i64 D)) (fun _ hk => ⟨hk.1.1.2, hk.1.2⟩)))) (aC (show Kd.R (Kd.int .u8) 5 G w.heap.size (fun _ => True) (.slice y u.length z) u from (by rw [hw]; exact (rU (Kd.vU (Kd.wK (p := ⟨d, 3, none⟩) (Kd.wK (p := ⟨d, 2, none⟩) (Kd.wK (p := ⟨d, 1, none⟩) (Kd.wK (p := ⟨d, 0, none⟩) (Kd.xH q.out j.out (by decide)) (fun _ hk => hk.2) (.string x)) (fun _ hk => hk.2) (.slice y u.length z)) (fun _ hk => hk.2) (.int .i64 B)) (fun _ hk => hk.2) (.int .i64 D)) (fun _ hk => trivial))))) (aC (show G.heap[d]? = some (.cells #[.string x, .slice y u.length z, .int .i64 B, .int .i64 D] 62 (0, 0)) from (by rw [hw]; exact (by (with_reducible repeat first | apply vm | apply vn | apply vl); refine vt (cs := #[.string x, .slice y u.length z, .int .i64 B, .int .i64 0]) ?_ 3 _ rfl; (with_reducible repeat first | apply vm | apply vn | apply vl); refine vt (cs := #[.string x, .slice y u.length z, .int .i64 0, .int .i64 0]) ?_ 2 _ rfl; (with_reducible repeat first | apply vm | apply vn | apply vl); refine vt (cs := #[.string x, .slice none 0 0, .int .i64 0, .int .i64 0]) ?_ 1 _ rfl; (with_reducible repeat first | apply vm | apply vn | apply vl); refine vt (cs := #[.string (⟨#[]⟩ : ByteArray), .slice none 0 0, .int .i64 0, .int .i64 0]) ?_ 0 _ rfl; (with_reducible repeat first | apply vm | apply vn | apply vl); exact j.out))) (aE (show Below w.heap.size w G from (by rw [hw]; exact bl))))); clear hw s q j HB; obtain ⟨s, q, j, HB⟩ := n_; obtain ⟨Z, a0, a1, a2, a3, a4, a5, a6⟩ := xP j.out) | ((with_reducible refine wU (b := .append) (xs := #[.tmp 23, .tmp 25]) rfl ?_); (try (refine xK (by rfl) ?_; dsimp only)); at_builtin; refine Kd.kM k62 (w0 := w) w.heap.size rfl (.tmp 23) (.tmp 25) 59 62 (.agg #[(.string ⟨#[]⟩), (.slice none 0 0), (.int .i64 0), (.int .i64 0)]) 56 rfl Tryz.underlying59 info62 rfl (by decide) (by omega) u5 E (⟨x, u, B, D⟩ : jw) [.string x, .slice y u.length z, .int .i64 B, .int .i64 D] (fun k_ => k_ ≠ d) (fun k_ => some k_ = (.slice y u.length z : Value).ownBlock) rfl rfl ?aP (fun k_ hk_ => ((Kd.vU (ok' := fun k_ => ((fun k_ => k_ ≠ d)) k_ ∧ some k_ ≠ (u5 : Value).ownBlock) (Kd.xH (Kd.R_apart' (q.out) (Kd.jr s.out) (by decide)) j.out (by decide)) (fun k_ hk => ⟨hk.2, hk.1.2⟩))).1 k_ hk_.symm) ?aF ?aO ?aB ?aS ?aL ?_; (case aP => exact k62_mkM _ _ _ (⟨x, u, B, D⟩ : jw) (Kd.vU (Kd.kN rfl (Kd.vU (ok' := fun k_ => ((fun k_ => k_ ≠ d)) k_ ∧ some k_ ≠ (u5 : Value).ownBlock) (Kd.xH (Kd.R_apart' (q.out) (Kd.jr s.out) (by decide)) j.out (by decide)) (fun k_ hk => ⟨hk.2, hk.1.2⟩))) (fun _ h_ => h_))); (case aB => exact bl); (case aF => exact (fun k_ hk => Kd.kz (bU j.out) k_ hk)); (case aO => exact (by (with_reducible repeat (first | apply Kd.yh | apply Kd.yb | apply Kd.yE)); exact Kd.zp s.out (fun k_ hk => ⟨hk.2, fun e_ => hk.1 e_⟩))); (case aS => exact bz); (case aL => have := d5.out; omega); intro e0 f1 ho hb hg hat; rw [← b5.out] at ho; have n_ := aC (xz (bU j.out) hg (Kd.S_away s.out (fun _ hk => hk.2))) (aC hb (aE ho)); clear j HB s q; obtain ⟨j, HB, b6⟩ := n_; clear ho hb hg hat; obtain ⟨a7, a8, a9, b0, b1, b2, b3, b4⟩ := xP j.out))
      repeat (go_quiet (first | (go_at_call 51; (with_reducible refine (vQ.calls k1 _ _ l0 _ _ l1 I J x u B D _ ?side1 ?side2 ?side3 ?side4 A5.out).mono ?_); (case side1 => exact cU (Kd.wz e1.out HB.out)); (case side2 => exact e2.out); (case side3 => exact cU (Kd.wz e3.out HB.out)); (case side4 => exact e4.out); rintro e w7 ⟨d9, rfl, L, hb⟩; have n_ := aC (Kd.S_elder' (by (with_reducible repeat (first | apply Kd.yh | apply Kd.yb | apply Kd.yE)); exact s.out) (Kd.xc L) hb) (aC (Kd.vS L bz) (aE (bs hb))); clear s HB; obtain ⟨s, q, HB⟩ := n_) | ((with_reducible refine gd 8 rfl ?_); (try (refine xK (by rfl) ?_; dsimp only)); refine bx 8 #[.string (⟨#[]⟩ : ByteArray), .slice none 0 0, .int .i64 0, .int .i64 0] 62 rfl rfl ?_; intro d hg w8 hbox hb; have n_ := aC (Kd.jC (Kd.kG (by (with_reducible repeat (first | apply Kd.yh | apply Kd.yb | apply Kd.yE)); exact s.out) d (Nat.le_of_eq hg.symm)) hb) (aC (Kd.wg (rU q.out) hb) (aC (bs hb) (aC hbox (aC (gz hg) (aE (gz hg)))))); clear s q HB; obtain ⟨s, q, HB, j, d6, d7⟩ := n_; clear hb hbox hg; obtain ⟨b7, b8, b9, d0, d1, d2, d3, d4⟩ := xP j.out; obtain ⟨y, z, M⟩ := Kd.vY q.out; subst M) | ((with_reducible refine zM (t := 62) (p := 8) rfl ?_); (try (rw [zh w8]; generalize hq_ : World.drewN w8 _ = w8; have O := aE (Kd.S_at hq_ s.out); have T := aE (Kd.R_at hq_ q.out); have X := aE (blk_at hq_ j.out); have Y := aE (qR hq_ HB.out); clear hq_ s q j HB; have s := O; have q := T; have j := X; have HB := Y; clear O T X Y)); refine zz (t := 62) (p := 8) (v := ?vo_w11) (w1 := ((((w8.setCell ⟨d, 0, none⟩ (.string x)).setCell ⟨d, 1, none⟩ (.slice y u.length z)).setCell ⟨d, 2, none⟩ (.int .i64 B)).setCell ⟨d, 3, none⟩ (.int .i64 D))) ?hg ?ho ?hn ?hr ?_; (case ho => rfl); (case hg => rfl); (case hn => rfl); (case hr => first | (go_simp; done) | (go_simp; rfl)); intro G hw; have n_ := aC (show Kd.S k62 62 G w.heap.size (fun k_ => some k_ ≠ (.slice y u.length z : Value).ownBlock ∧ k_ ≠ d) u5 E from (by rw [hw]; exact (by (with_reducible repeat (first | apply Kd.yh | apply Kd.yb | apply Kd.yE)); exact Kd.zp (Kd.zX (p := ⟨d, 3, none⟩) (Kd.zX (p := ⟨d, 2, none⟩) (Kd.zX (p := ⟨d, 1, none⟩) (Kd.zX (p := ⟨d, 0, none⟩) (Kd.zp s.out (fun k_ hk => (⟨hk, hk.2⟩ : _ ∧ k_ ≠ d))) (fun _ hk => hk.2) (.string x)) (fun _ hk => hk.2) (.slice y u.length z)) (fun _ hk => hk.2) (.int .i64 B)) (fun _ hk => hk.2) (.int .i64 D)) (fun _ hk => ⟨hk.1.1.2, hk.1.2⟩)))) (aC (show Kd.R (Kd.int .u8) 5 G w.heap.size (fun _ => True) (.slice y u.length z) u from (by rw [hw]; exact (rU (Kd.vU (Kd.wK (p := ⟨d, 3, none⟩) (Kd.wK (p := ⟨d, 2, none⟩) (Kd.wK (p := ⟨d, 1, none⟩) (Kd.wK (p := ⟨d, 0, none⟩) (Kd.xH q.out j.out (by decide)) (fun _ hk => hk.2) (.string x)) (fun _ hk => hk.2) (.slice y u.length z)) (fun _ hk => hk.2) (.int .i64 B)) (fun _ hk => hk.2) (.int .i64 D)) (fun _ hk => trivial))))) (aC (show G.heap[d]? = some (.cells #[.string x, .slice y u.length z, .int .i64 B, .int .i64 D] 62 (0, 0)) from (by rw [hw]; exact (by (with_reducible repeat first | apply vm | apply vn | apply vl); refine vt (cs := #[.string x, .slice y u.length z, .int .i64 B, .int .i64 0]) ?_ 3 _ rfl; (with_reducible repeat first | apply vm | apply vn | apply vl); refine vt (cs := #[.string x, .slice y u.length z, .int .i64 0, .int .i64 0]) ?_ 2 _ rfl; (with_reducible repeat first | apply vm | apply vn | apply vl); refine vt (cs := #[.string x, .slice none 0 0, .int .i64 0, .int .i64 0]) ?_ 1 _ rfl; (with_reducible repeat first | apply vm | apply vn | apply vl); refine vt (cs := #[.string (⟨#[]⟩ : ByteArray), .slice none 0 0, .int .i64 0, .int .i64 0]) ?_ 0 _ rfl; (with_reducible repeat first | apply vm | apply vn | apply vl); exact j.out))) (aE (show Below w.heap.size w G from (by rw [hw]; exact bl))))); clear hw s q j HB; obtain ⟨s, q, j, HB⟩ := n_; obtain ⟨Z, a0, a1, a2, a3, a4, a5, a6⟩ := xP j.out) | ((with_reducible refine wU (b := .append) (xs := #[.tmp 23, .tmp 25]) rfl ?_); (try (refine xK (by rfl) ?_; dsimp only)); at_builtin; refine Kd.kM k62 (w0 := w) w.heap.size rfl (.tmp 23) (.tmp 25) 59 62 (.agg #[(.string ⟨#[]⟩), (.slice none 0 0), (.int .i64 0), (.int .i64 0)]) 56 rfl Tryz.underlying59 info62 rfl (by decide) (by omega) u5 E (⟨x, u, B, D⟩ : jw) [.string x, .slice y u.length z, .int .i64 B, .int .i64 D] (fun k_ => k_ ≠ d) (fun k_ => some k_ = (.slice y u.length z : Value).ownBlock) rfl rfl ?aP (fun k_ hk_ => ((Kd.vU (ok' := fun k_ => ((fun k_ => k_ ≠ d)) k_ ∧ some k_ ≠ (u5 : Value).ownBlock) (Kd.xH (Kd.R_apart' (q.out) (Kd.jr s.out) (by decide)) j.out (by decide)) (fun k_ hk => ⟨hk.2, hk.1.2⟩))).1 k_ hk_.symm) ?aF ?aO ?aB ?aS ?aL ?_; (case aP => exact k62_mkM _ _ _ (⟨x, u, B, D⟩ : jw) (Kd.vU (Kd.kN rfl (Kd.vU (ok' := fun k_ => ((fun k_ => k_ ≠ d)) k_ ∧ some k_ ≠ (u5 : Value).ownBlock) (Kd.xH (Kd.R_apart' (q.out) (Kd.jr s.out) (by decide)) j.out (by decide)) (fun k_ hk => ⟨hk.2, hk.1.2⟩))) (fun _ h_ => h_))); (case aB => exact bl); (case aF => exact (fun k_ hk => Kd.kz (bU j.out) k_ hk)); (case aO => exact (by (with_reducible repeat (first | apply Kd.yh | apply Kd.yb | apply Kd.yE)); exact Kd.zp s.out (fun k_ hk => ⟨hk.2, fun e_ => hk.1 e_⟩))); (case aS => exact bz); (case aL => have := d5.out; omega); intro e0 f1 ho hb hg hat; rw [← b5.out] at ho; have n_ := aC (xz (bU j.out) hg (Kd.S_away s.out (fun _ hk => hk.2))) (aC hb (aE ho)); clear j HB s q; obtain ⟨j, HB, b6⟩ := n_; clear ho hb hg hat; obtain ⟨a7, a8, a9, b0, b1, b2, b3, b4⟩ := xP j.out)); try go_wp2_with (first | (go_at_call 51; (with_reducible refine (vQ.calls k1 _ _ l0 _ _ l1 I J x u B D _ ?side1 ?side2 ?side3 ?side4 A5.out).mono ?_); (case side1 => exact cU (Kd.wz e1.out HB.out)); (case side2 => exact e2.out); (case side3 => exact cU (Kd.wz e3.out HB.out)); (case side4 => exact e4.out); rintro e w7 ⟨d9, rfl, L, hb⟩; have n_ := aC (Kd.S_elder' (by (with_reducible repeat (first | apply Kd.yh | apply Kd.yb | apply Kd.yE)); exact s.out) (Kd.xc L) hb) (aC (Kd.vS L bz) (aE (bs hb))); clear s HB; obtain ⟨s, q, HB⟩ := n_) | ((with_reducible refine gd 8 rfl ?_); (try (refine xK (by rfl) ?_; dsimp only)); refine bx 8 #[.string (⟨#[]⟩ : ByteArray), .slice none 0 0, .int .i64 0, .int .i64 0] 62 rfl rfl ?_; intro d hg w8 hbox hb; have n_ := aC (Kd.jC (Kd.kG (by (with_reducible repeat (first | apply Kd.yh | apply Kd.yb | apply Kd.yE)); exact s.out) d (Nat.le_of_eq hg.symm)) hb) (aC (Kd.wg (rU q.out) hb) (aC (bs hb) (aC hbox (aC (gz hg) (aE (gz hg)))))); clear s q HB; obtain ⟨s, q, HB, j, d6, d7⟩ := n_; clear hb hbox hg; obtain ⟨b7, b8, b9, d0, d1, d2, d3, d4⟩ := xP j.out; obtain ⟨y, z, M⟩ := Kd.vY q.out; subst M) | ((with_reducible refine zM (t := 62) (p := 8) rfl ?_); (try (rw [zh w8]; generalize hq_ : World.drewN w8 _ = w8; have O := aE (Kd.S_at hq_ s.out); have T := aE (Kd.R_at hq_ q.out); have X := aE (blk_at hq_ j.out); have Y := aE (qR hq_ HB.out); clear hq_ s q j HB; have s := O; have q := T; have j := X; have HB := Y; clear O T X Y)); refine zz (t := 62) (p := 8) (v := ?vo_w11) (w1 := ((((w8.setCell ⟨d, 0, none⟩ (.string x)).setCell ⟨d, 1, none⟩ (.slice y u.length z)).setCell ⟨d, 2, none⟩ (.int .i64 B)).setCell ⟨d, 3, none⟩ (.int .i64 D))) ?hg ?ho ?hn ?hr ?_; (case ho => rfl); (case hg => rfl); (case hn => rfl); (case hr => first | (go_simp; done) | (go_simp; rfl)); intro G hw; have n_ := aC (show Kd.S k62 62 G w.heap.size (fun k_ => some k_ ≠ (.slice y u.length z : Value).ownBlock ∧ k_ ≠ d) u5 E from (by rw [hw]; exact (by (with_reducible repeat (first | apply Kd.yh | apply Kd.yb | apply Kd.yE)); exact Kd.zp (Kd.zX (p := ⟨d, 3, none⟩) (Kd.zX (p := ⟨d, 2, none⟩) (Kd.zX (p := ⟨d, 1, none⟩) (Kd.zX (p := ⟨d, 0, none⟩) (Kd.zp s.out (fun k_ hk => (⟨hk, hk.2⟩ : _ ∧ k_ ≠ d))) (fun _ hk => hk.2) (.string x)) (fun _ hk => hk.2) (.slice y u.length z)) (fun _ hk => hk.2) (.int .i64 B)) (fun _ hk => hk.2) (.int .i64 D)) (fun _ hk => ⟨hk.1.1.2, hk.1.2⟩)))) (aC (show Kd.R (Kd.int .u8) 5 G w.heap.size (fun _ => True) (.slice y u.length z) u from (by rw [hw]; exact (rU (Kd.vU (Kd.wK (p := ⟨d, 3, none⟩) (Kd.wK (p := ⟨d, 2, none⟩) (Kd.wK (p := ⟨d, 1, none⟩) (Kd.wK (p := ⟨d, 0, none⟩) (Kd.xH q.out j.out (by decide)) (fun _ hk => hk.2) (.string x)) (fun _ hk => hk.2) (.slice y u.length z)) (fun _ hk => hk.2) (.int .i64 B)) (fun _ hk => hk.2) (.int .i64 D)) (fun _ hk => trivial))))) (aC (show G.heap[d]? = some (.cells #[.string x, .slice y u.length z, .int .i64 B, .int .i64 D] 62 (0, 0)) from (by rw [hw]; exact (by (with_reducible repeat first | apply vm | apply vn | apply vl); refine vt (cs := #[.string x, .slice y u.length z, .int .i64 B, .int .i64 0]) ?_ 3 _ rfl; (with_reducible repeat first | apply vm | apply vn | apply vl); refine vt (cs := #[.string x, .slice y u.length z, .int .i64 0, .int .i64 0]) ?_ 2 _ rfl; (with_reducible repeat first | apply vm | apply vn | apply vl); refine vt (cs := #[.string x, .slice none 0 0, .int .i64 0, .int .i64 0]) ?_ 1 _ rfl; (with_reducible repeat first | apply vm | apply vn | apply vl); refine vt (cs := #[.string (⟨#[]⟩ : ByteArray), .slice none 0 0, .int .i64 0, .int .i64 0]) ?_ 0 _ rfl; (with_reducible repeat first | apply vm | apply vn | apply vl); exact j.out))) (aE (show Below w.heap.size w G from (by rw [hw]; exact bl))))); clear hw s q j HB; obtain ⟨s, q, j, HB⟩ := n_; obtain ⟨Z, a0, a1, a2, a3, a4, a5, a6⟩ := xP j.out) | ((with_reducible refine wU (b := .append) (xs := #[.tmp 23, .tmp 25]) rfl ?_); (try (refine xK (by rfl) ?_; dsimp only)); at_builtin; refine Kd.kM k62 (w0 := w) w.heap.size rfl (.tmp 23) (.tmp 25) 59 62 (.agg #[(.string ⟨#[]⟩), (.slice none 0 0), (.int .i64 0), (.int .i64 0)]) 56 rfl Tryz.underlying59 info62 rfl (by decide) (by omega) u5 E (⟨x, u, B, D⟩ : jw) [.string x, .slice y u.length z, .int .i64 B, .int .i64 D] (fun k_ => k_ ≠ d) (fun k_ => some k_ = (.slice y u.length z : Value).ownBlock) rfl rfl ?aP (fun k_ hk_ => ((Kd.vU (ok' := fun k_ => ((fun k_ => k_ ≠ d)) k_ ∧ some k_ ≠ (u5 : Value).ownBlock) (Kd.xH (Kd.R_apart' (q.out) (Kd.jr s.out) (by decide)) j.out (by decide)) (fun k_ hk => ⟨hk.2, hk.1.2⟩))).1 k_ hk_.symm) ?aF ?aO ?aB ?aS ?aL ?_; (case aP => exact k62_mkM _ _ _ (⟨x, u, B, D⟩ : jw) (Kd.vU (Kd.kN rfl (Kd.vU (ok' := fun k_ => ((fun k_ => k_ ≠ d)) k_ ∧ some k_ ≠ (u5 : Value).ownBlock) (Kd.xH (Kd.R_apart' (q.out) (Kd.jr s.out) (by decide)) j.out (by decide)) (fun k_ hk => ⟨hk.2, hk.1.2⟩))) (fun _ h_ => h_))); (case aB => exact bl); (case aF => exact (fun k_ hk => Kd.kz (bU j.out) k_ hk)); (case aO => exact (by (with_reducible repeat (first | apply Kd.yh | apply Kd.yb | apply Kd.yE)); exact Kd.zp s.out (fun k_ hk => ⟨hk.2, fun e_ => hk.1 e_⟩))); (case aS => exact bz); (case aL => have := d5.out; omega); intro e0 f1 ho hb hg hat; rw [← b5.out] at ho; have n_ := aC (xz (bU j.out) hg (Kd.S_away s.out (fun _ hk => hk.2))) (aC hb (aE ho)); clear j HB s q; obtain ⟨j, HB, b6⟩ := n_; clear ho hb hg hat; obtain ⟨a7, a8, a9, b0, b1, b2, b3, b4⟩ := xP j.out)))
      go_roundg k1
      case measure => have := e8.out; omega
      case rel => exact ⟨(d8), (B), (D), rq, rq, H', ⟨by have := e8.out; omega⟩, ⟨by (with_reducible repeat (first | apply Kd.yh | apply Kd.yb | apply Kd.yE)); exact Kd.zp b6.out (fun _ hk => trivial)⟩, ⟨bl⟩⟩
     ·rw [if_neg c6] at H
      exact nB H
    ·obtain rfl := Option.some.inj H
     go_wp2
     go_ret
     exact ⟨_, re, by (with_reducible repeat (first | apply Kd.yh | apply Kd.yb | apply Kd.yE)); exact s.out, bl⟩
   ·rw [if_neg c3] at H
    have e9 := decide_eq_false c3
    have f0 : decide (0 < l1.length) = false := decide_eq_false (by omega)
    clear c3
    obtain rfl := Option.some.inj H
    go_wp2
    go_ret
    exact ⟨_, re, by (with_reducible repeat (first | apply Kd.yh | apply Kd.yb | apply Kd.yE)); exact s.out, bl⟩
mutual
def vv.l0 : Nat → List Int → Int → Int → Int → List Int → Option (List Int)
 | 0, _, _, _, _, _ => none
 | k + 1, x3, x4, e, d, j => if x4 < d then ((xm.f e d j (wrap64 (x4 - 1))).bind fun r => ((xm.f e d j x4).bind fun s => ((vN.f k r s).bind fun q => (vv.l1 k x3 x4 q (q.length : Int) 0 e d j)))) else (some x3)
def vv.l1 : Nat → List Int → Int → List (jw) → Int → Int → Int → Int → List Int → Option (List Int)
 | 0, _, _, _, _, _, _, _, _ => none
 | k + 1, x3, x4, r, s, q, d, e, j => if q < s then (if 0 ≤ q then (if q < (r.length : Int) then (if x3.length + ((xY r q).f1).length < 140737488355328 then (vv.l1 k (x3 ++ ((xY r q).f1)) x4 r s (wrap64 (q + 1)) d e j) else (none)) else (none)) else (none)) else (vv.l0 k x3 (wrap64 (x4 + 1)) d e j)
end
def vv.f (k : Nat) (d : Int) (e : Int) (j : List Int) : Option (List Int) := vv.l0 k ([] : List Int) 0 d e j
theorem vv.wt : ∀ k, (∀ y0 y1 y2 y3 y4, vK (vv.l0 k y0 y1 y2 y3 y4) (vv.l0 (k + 1) y0 y1 y2 y3 y4)) ∧ (∀ y0 y1 y2 y3 y4 y5 y6 y7, vK (vv.l1 k y0 y1 y2 y3 y4 y5 y6 y7) (vv.l1 (k + 1) y0 y1 y2 y3 y4 y5 y6 y7))
 | 0 => ⟨fun _ _ _ _ _ r h => by simp [vv.l0] at h, fun _ _ _ _ _ _ _ _ r h => by simp [vv.l1] at h⟩
 | k + 1 => by
  obtain ⟨ih0, ih1⟩ := vv.wt k
  refine ⟨?_, ?_⟩
  ·intro y0 y1 y2 y3 y4
   unfold vv.l0
   repeat' first
   | (with_reducible exact ih0 _ _ _ _ _)
   | (with_reducible exact ih1 _ _ _ _ _ _ _ _)
   | (with_reducible exact vN.mono _ _ _)
   | (with_reducible first | exact vK.refl _ | exact vK.none _ | apply vK.ite | apply vK.bind | intro)
  ·intro y0 y1 y2 y3 y4 y5 y6 y7
   unfold vv.l1
   repeat' first
   | (with_reducible exact ih0 _ _ _ _ _)
   | (with_reducible exact ih1 _ _ _ _ _ _ _ _)
   | (with_reducible exact vN.mono _ _ _)
   | (with_reducible first | exact vK.refl _ | exact vK.none _ | apply vK.ite | apply vK.bind | intro)
theorem vv.mono : ∀ a0 a1 a2 k, vK (vv.f k a0 a1 a2) (vv.f (k + 1) a0 a1 a2) := by
 intro a0 a1 a2 k
 obtain ⟨ih0, ih1⟩ := vv.wt k
 unfold vv.f
 repeat' first
   | (with_reducible exact ih0 _ _ _ _ _)
   | (with_reducible exact ih1 _ _ _ _ _ _ _ _)
   | (with_reducible exact vN.mono _ _ _)
   | (with_reducible first | exact vK.refl _ | exact vK.none _ | apply vK.ite | apply vK.bind | intro)
def vv.T5 : Bool × List (List Nat × List Nat) := (true, [([], []), ([], []), ([1], [1]), ([0, 2], [0, 2]), ([], []), ([], []), ([4, 5, 3], [4, 5]), ([3, 6, 6], [3, 6]), ([7], [7]), ([], [])])
def vv.B5 : List Nat := [0, 0, 2, 7, 0, 0, 63, 127, 255, 0]
theorem vv.tab5 : zi .any (opsOf Tryz.f12 5) = vv.T5 := by kernel_rfl
theorem vv.kI : yv vv.T5.2 vv.B5 = true := by kernel_rfl
theorem vv.calls (k : Nat) (x : Int) (y : Int) (O : Option Addr) (T : Nat) (u : List Int) (r : List Int) (w : World) (hr0_2 : Kd.C (Kd.int .u8) w O u.length u) (a7 : u.length ≤ T) (h : vv.f k x y u = some r) :
  Calls Tryz.prog 12 #[.agg #[.int .i64 x, .int .i64 y, .slice O u.length T]] w fun e w' => ∃ d6 : Value, e = .returned (d6) ∧ Kd.R (Kd.int .u8) 5 w' w.heap.size (fun _ => True) d6 r ∧ Below w.heap.size w w' := by
 have hu24 := Tryz.underlying24
 have hu62 := Tryz.underlying62
 have a8 := aE hr0_2
 have a9 := aE a7
 clear hr0_2 a7
 have HB := bR w
 have H : (vv.l0 k ([] : List Int) 0 x y u) = some r := h
 clear h
 have H' := aE H
 clear H
 go_enter Tryz.func12, Tryz.ntmps12
 go_wp2_with (first | ((with_reducible refine gd 1 rfl ?_); refine bx 1 #[.int .i64 x, .int .i64 y, .slice O u.length T] 24 rfl rfl ?_; intro Y hg w2 hbox hb; have n_ := aC (bs hb) (aC hbox (aC (gz hg) (aE (gz hg)))); clear HB; obtain ⟨HB, d, h5, h6⟩ := n_; clear hb hbox hg))
 go_loopg [3, 4] k (fun kq v3 v4 w' => ∃ (a4 : List Int) (L : Int), v4 = .int .i64 L ∧ Aside0 (vv.l0 kq a4 L x y u = some r) ∧ Aside0 (kq ≤ k) ∧ Aside0 (Kd.R (Kd.int .u8) 5 w' w.heap.size (fun _ => True) v3 a4) ∧ Aside0 (w'.heap[Y]? = some (.cells #[.int .i64 x, .int .i64 y, (.slice O u.length T)] 24 (0, 0))) ∧ Aside0 (Below w.heap.size w w'))
 case atStart => exact ⟨(([] : List Int)), (0), rq, H', ⟨Nat.le_refl _⟩, ⟨by first | exact Kd.yu _ _ _ _ _ | exact Kd.yR _ _ _ _ _ | exact Kd.yS _ _ _ _ _ | exact Kd.yP _ _ _ _ _ | exact Kd.yV _ _ _ _ _⟩, ⟨bU d.out⟩, ⟨bl⟩⟩
 case round =>
  clear H'
  obtain ⟨a4, L, rfl, HA, b4, s, d, HB⟩ := hrel
  cases gk with
  | zero => exact absurd HA.out (by simp [vv.l0])
  | succ k1 =>
   have H := HA.out
   clear HA
   simp only [vv.l0] at H
   rcases iL H with H1 | H1 <;> clear H <;> obtain ⟨H, i5⟩ := H1
   ·obtain ⟨b0, A4, H⟩ := oB H
    try dsimp only at H
    obtain ⟨b1, A5, H⟩ := oB H
    try dsimp only at H
    obtain ⟨q, A6, H⟩ := oB H
    try dsimp only at H
    have H' := aE H
    clear H
    obtain ⟨g6, g7, g8, g9, h3, h4⟩ := yk d.out
    try go_wp2
    have n_ := aC (Kd.jT s.out) (aC (vn d.out) (aE (vy HB.out)))
    clear s d HB
    obtain ⟨s, d, HB⟩ := n_
    refine st 10 (fun w' => w'.cell? ⟨Y, 0, none⟩ = some (.int .i64 x) ∧ w'.cell? ⟨Y, 1, none⟩ = some (.int .i64 y) ∧ w'.cell? ⟨Y, 2, none⟩ = some (.slice O u.length T)) [] (bv 10 0) vv.tab5 vv.kI ⟨jB d.out, jz d.out, jK d.out⟩ (fun hHeld HT_ HW_ => ?_)
    generalize wr.drew = w8 at s d HB hHeld ⊢
    refine pu 1 14 (bv 10 2) HT_ rfl rfl ?_
    refine pu 2 15 (bv 10 6) HT_ rfl rfl ?_
    refine pu 5 18 (bv 10 38) HT_ rfl rfl ?_
    refine pu 9 22 (bv 10 550) HT_ rfl rfl ?_
    refine tk 0 13 (bv 10 551) HT_ HW_ hHeld rfl rfl (by rintro w' ⟨s0, s1, s2⟩; exact yl) ?_
    refine tk 4 17 (bv 10 567) HT_ HW_ hHeld rfl rfl (by rintro w' ⟨s0, s1, s2⟩; exact yl) ?_
    refine yA (i := 3) (N := some 16) (bv 10 575) rfl rfl (xl HT_.out (by kernel_rfl)) (by decide) (fun K hK => ?_)
    refine gK Tryz.func29 rfl #[.agg #[.int .i64 x, .int .i64 y, .slice O u.length T], .int .i64 (wrap64 (L - 1))] rfl rfl ?_
    with_reducible refine (xm.calls x y _ _ u (wrap64 (L - 1)) b0 _ ?side1 ?side2 A4.out).mono ?_
    (case side1 => exact cU (Kd.wz a8.out HB.out))
    (case side2 => exact a9.out)
    rintro e w9 ⟨i6, rfl, Z, hb⟩
    refine ⟨_, rfl, ?_⟩
    have n_ := aC (Kd.R_elder' (rU s.out) (Kd.xc Z) hb) (aC (Kd.vS (Kd.R_new' Z (Kd.xW (rU s.out))) bz) (aC (vp (bU d.out) hb) (aE (bs hb))))
    clear s d HB
    obtain ⟨s, z, d, HB⟩ := n_
    (try clear hb)
    (try clear d7)
    (try clear hk)
    (try clear hi)
    (try clear Z)
    refine hK.out _ _ ⟨jB d.out, jz d.out, jK d.out⟩ (fun hHeld => ?_)
    clear hK K
    refine nm (some 16) ?_
    refine yA (i := 6) (N := some 19) (bv 10 639) rfl rfl (xl HT_.out (by kernel_rfl)) (by decide) (fun K hK => ?_)
    refine gK Tryz.func29 rfl #[.agg #[.int .i64 x, .int .i64 y, .slice O u.length T], .int .i64 L] rfl rfl ?_
    with_reducible refine (xm.calls x y _ _ u L b1 _ ?side1 ?side2 A5.out).mono ?_
    (case side1 => exact cU (Kd.wz a8.out HB.out))
    (case side2 => exact a9.out)
    rintro e j2 ⟨i7, rfl, Z, hb⟩
    refine ⟨_, rfl, ?_⟩
    have n_ := aC (Kd.R_elder' (rU s.out) (Kd.xc Z) hb) (aC (Kd.R_elder' (rU z.out) (Kd.xc Z) hb) (aC (Kd.vS (Kd.R_new' (Kd.R_new' Z (Kd.xW (rU s.out))) (Kd.xW (rU z.out))) bz) (aC (vp (bU d.out) hb) (aE (bs hb)))))
    clear s z d HB
    obtain ⟨s, z, M, d, HB⟩ := n_
    (try clear hb)
    (try clear d7)
    (try clear hk)
    (try clear hi)
    (try clear Z)
    obtain ⟨d8, d9, b9⟩ := Kd.vY z.out
    (first | subst b9 | (injection b9 with f1_ f2_ f3_; have f4_ := f1_.symm; have f5_ := f3_.symm; clear f1_ f2_ f3_; subst f4_; subst f5_))
    obtain ⟨e0, e1, c0⟩ := Kd.vY M.out
    (first | subst c0 | (injection c0 with f1_ f2_ f3_; have f4_ := f1_.symm; have f5_ := f3_.symm; clear f1_ f2_ f3_; subst f4_; subst f5_))
    refine hK.out _ _ ⟨jB d.out, jz d.out, jK d.out⟩ (fun hHeld => ?_)
    clear hK K
    refine nm (some 19) ?_
    refine yA (i := 7) (N := some 20) (bv 10 767) rfl rfl (xl HT_.out (by kernel_rfl)) (by decide) (fun K hK => ?_)
    refine gK Tryz.func31 rfl #[.slice d8 b0.length d9, .slice e0 b1.length e1] rfl rfl ?_
    with_reducible refine (vN.calls k1 _ _ b0 _ _ b1 q _ ?side1 ?side2 ?side3 ?side4 A6.out).mono ?_
    (case side1 => exact cU (Kd.R_reads' z.out).2.2)
    (case side2 => exact (Kd.R_reads' z.out).2.1)
    (case side3 => exact cU (Kd.R_reads' M.out).2.2)
    (case side4 => exact (Kd.R_reads' M.out).2.1)
    rintro e j3 ⟨i8, rfl, Z, hb⟩
    refine ⟨_, rfl, ?_⟩
    have n_ := aC (Kd.wg (rU s.out) hb) (aC (Kd.wg (rU z.out) hb) (aC (Kd.wg (rU M.out) hb) (aC (Kd.S_lower (Kd.S_new' (Kd.S_new' (Kd.S_new' Z (Kd.xW (rU s.out))) (Kd.xW (rU z.out))) (Kd.xW (rU M.out))) bz) (aC (vp (bU d.out) hb) (aE (bs hb))))))
    clear s z M d HB
    obtain ⟨s, z, M, b2, d, HB⟩ := n_
    (try clear hb)
    (try clear d7)
    (try clear hk)
    (try clear hi)
    (try clear Z)
    obtain ⟨e2, c1, d0⟩ := Kd.S_slice b2.out
    (first | subst d0 | (injection d0 with f1_ f2_ f3_; have f4_ := f1_.symm; have f5_ := f3_.symm; clear f1_ f2_ f3_; subst f4_; subst f5_))
    refine hK.out _ _ ⟨jB d.out, jz d.out, jK d.out⟩ (fun hHeld => ?_)
    clear hK K
    refine nm (some 20) ?_
    refine pu 8 21 (bv 10 1023) HT_ rfl rfl ?_
    refine zd (xZ HT_.out (by kernel_rfl)) ?_
    try go_wp2
    go_loopg [3, 22] k1 (fun kq v3 h7 w' => ∃ (a0 : List Int) (j : Int), h7 = .int .i64 j ∧ Aside0 (vv.l1 kq a0 L q (q.length : Int) j x y u = some r) ∧ Aside0 (kq ≤ k1) ∧ Aside0 (Kd.R (Kd.int .u8) 5 w' w.heap.size (fun _ => True) v3 a0) ∧ Aside0 (Kd.S k62 62 w' w.heap.size (fun k_ => some k_ ≠ (v3 : Value).ownBlock) (.slice e2 q.length c1) q) ∧ Aside0 (w'.heap[Y]? = some (.cells #[.int .i64 x, .int .i64 y, (.slice O u.length T)] 24 (0, 0))) ∧ Aside0 (Below w.heap.size w w'))
    case atStart => exact ⟨(a4), (0), rq, H', ⟨Nat.le_refl _⟩, ⟨rU (Kd.vU s.out (fun _ hk => trivial))⟩, ⟨by (with_reducible repeat (first | apply Kd.yh | apply Kd.yb | apply Kd.yE)); exact Kd.zp b2.out (fun _ hk => hk.1.1.2)⟩, ⟨bU d.out⟩, ⟨bl⟩⟩
    case round =>
     clear H'
     obtain ⟨a0, j, rfl, HA, b5, s, D, d, HB⟩ := hrel
     cases gk with
     | zero => exact absurd HA.out (by simp [vv.l1])
     | succ k2 =>
      have H := HA.out
      clear HA
      simp only [vv.l1] at H
      rcases iL H with H1 | H1 <;> clear H <;> obtain ⟨H, h8⟩ := H1
      ·by_cases b6 : 0 ≤ j
       ·rw [if_pos b6] at H
        have h9 := decide_eq_true b6
        clear b6
        by_cases b7 : j < (q.length : Int)
        ·rw [if_pos b7] at H
         have i0 := decide_eq_true b7
         clear b7
         by_cases b8 : a0.length + ((xY q j).f1).length < 140737488355328
         ·rw [if_pos b8] at H
          have d2 := aE b8
          clear b8
          obtain ⟨d1, hy_⟩ : ∃ y_ : List Int, y_ = (a0 ++ ((xY q j).f1)) := ⟨_, rfl⟩
          replace H : (vv.l1 k2 d1 L q (q.length : Int) (wrap64 (j + 1)) x y u) = some r := rh
          have d3 := aE hy_
          clear hy_
          have H' := aE H
          clear H
          have a5 : 0 ≤ (j : Int) := dt
          have a6 : j < (q.length : Int) := dt
          obtain ⟨d4, E, G, e3, e4, b3, e5, e6, a1, a2⟩ := at_T62 (Kd.S_reads' D.out).2.2 j a5 a6
          cases e3
          obtain ⟨ce677, hce677, hMe677, hcc677⟩ := Kd.S_get D.out z62 j a5 (by first | exact a6 | exact dt | (have e_ := (Kd.S_reads' D.out).1; omega))
          obtain ⟨ve677_1, rfl, ge677_1⟩ := k62_openM hMe677
          have I := hcc677 1 _ rfl
          rw [yK _ _ 1 (by omega)] at I
          replace I := Option.some.inj (I.symm.trans b3)
          rw [I] at ge677_1
          have HL677_1 := aE (show Kd.R (Kd.int .u8) 5 _ _ _ _ ((xY q j).f1) from ge677_1)
          clear I ge677_1
          clear hcc677 hce677
          have X := aE a2
          have e7 := aE a1
          clear a2 a1
          replace a5 := eq_true a5
          replace a6 := eq_true a6
          go_wp2_with (first | ((with_reducible refine gd 6 rfl ?_); refine bx 6 #[.string (⟨#[]⟩ : ByteArray), .slice none 0 0, .int .i64 0, .int .i64 0] 62 rfl rfl ?_; intro t hg j4 hbox hb; have n_ := aC (Kd.wg (rU s.out) hb) (aC (Kd.jC (Kd.kG (by (with_reducible repeat (first | apply Kd.yh | apply Kd.yb | apply Kd.yE)); exact D.out) t (Nat.le_of_eq hg.symm)) hb) (aC (Kd.wg (rU HL677_1.out) hb) (aC (vp (bU d.out) hb) (aC (Kd.wz (by repeat (first | (with_reducible exact X.out) | (with_reducible refine Kd.yi ?_ _) | (with_reducible refine Kd.yg ?_ _) | (with_reducible refine Kd.yr ?_) | exact X.out)) hb) (aC (bs hb) (aC hbox (aC (gz hg) (aC (gz hg) (aC (gn hg (bU d.out)) (aE (gm hg (bU d.out)))))))))))); clear s D HL677_1 d X HB; obtain ⟨s, D, HL677_1, d, X, HB, J, i1, i2, B, a3⟩ := n_; clear hb hbox hg; have i3 := a3.out; have i4 := B.out; obtain ⟨e8, e9, f4, f5, f6, f7, f8, f9⟩ := xP J.out) | ((with_reducible refine wU (b := .append) (xs := #[.tmp 26, .tmp 28]) rfl ?_); at_builtin; refine Kd.xO (Kd.int .u8) (w0 := w) w.heap.size rfl (.tmp 26) (.tmp 28) 22 5 (.int .u8 0) 1 rfl Tryz.underlying22 info5 rfl (by decide) (by omega) u3 a0 ((xY q j).f1) _ _ _ (fun _ => True) (fun _ => False) rfl rfl ?aO ?aR (fun _ _ h => h) (fun _ h => h.elim) ?aF ?aB ?aS ?aL ?_; (case aR => repeat (first | exact ((Kd.R_reads' (rU (Kd.vU (Kd.wK (p := ⟨t, 3, none⟩) (Kd.wK (p := ⟨t, 2, none⟩) (Kd.wK (p := ⟨t, 1, none⟩) (Kd.wK (p := ⟨t, 0, none⟩) (Kd.xH HL677_1.out J.out (by decide)) (fun _ hk => hk.2) (.string ((xY q j).f0))) (fun _ hk => hk.2) (.slice E ((xY q j).f1).length G)) (fun _ hk => hk.2) (.int .i64 ((xY q j).f2))) (fun _ hk => hk.2) (.int .i64 ((xY q j).f3))) (fun _ h_ => h_.1)))).2.2) | (with_reducible refine Kd.yi ?_ _) | (with_reducible refine Kd.yg ?_ _) | (with_reducible refine Kd.yr ?_))); (case aB => exact bl); (case aF => exact (fun _ _ => trivial)); (case aO => exact (rU (Kd.vU (Kd.wK (p := ⟨t, 3, none⟩) (Kd.wK (p := ⟨t, 2, none⟩) (Kd.wK (p := ⟨t, 1, none⟩) (Kd.wK (p := ⟨t, 0, none⟩) (Kd.xH s.out J.out (by decide)) (fun _ hk => hk.2) (.string ((xY q j).f0))) (fun _ hk => hk.2) (.slice E ((xY q j).f1).length G)) (fun _ hk => hk.2) (.int .i64 ((xY q j).f2))) (fun _ hk => hk.2) (.int .i64 ((xY q j).f3))) (fun _ hk => trivial)))); (case aS => exact bz); (case aL => have := d2.out; omega); intro i9 j5 ho hb hg hat; rw [← d3.out] at ho; have n_ := aC (Kd.S_after (ok := (fun k_ => k_ ≠ t)) (by (with_reducible repeat (first | apply Kd.yh | apply Kd.yb | apply Kd.yE)); exact Kd.zp (Kd.zX (p := ⟨t, 3, none⟩) (Kd.zX (p := ⟨t, 2, none⟩) (Kd.zX (p := ⟨t, 1, none⟩) (Kd.zX (p := ⟨t, 0, none⟩) (Kd.zp D.out (fun k_ hk => (⟨hk, hk.2⟩ : _ ∧ k_ ≠ t))) (fun _ hk => hk.2) (.string ((xY q j).f0))) (fun _ hk => hk.2) (.slice E ((xY q j).f1).length G)) (fun _ hk => hk.2) (.int .i64 ((xY q j).f2))) (fun _ hk => hk.2) (.int .i64 ((xY q j).f3))) (fun _ hk => ⟨hk.1.2, hk.1.1⟩)) hg hat) (aC (xz (g := Y) (o := .cells #[.int .i64 x, .int .i64 y, .slice O u.length T] 24 (0, 0)) (by (with_reducible repeat first | apply vm | apply vn | apply vl); refine wk ?_ B.out _; (with_reducible repeat first | apply vm | apply vn | apply vl); refine wk ?_ B.out _; (with_reducible repeat first | apply vm | apply vn | apply vl); refine wk ?_ B.out _; (with_reducible repeat first | apply vm | apply vn | apply vl); refine wk ?_ B.out _; (with_reducible repeat first | apply vm | apply vn | apply vl); exact d.out) hg (Kd.ja s.out d.out (by decide))) (aC (Kd.yG (ok := (fun k_ => some k_ ≠ (.slice (some d4) q.length c1 : Value).ownBlock)) (rU (Kd.vU (Kd.wK (p := ⟨t, 3, none⟩) (Kd.wK (p := ⟨t, 2, none⟩) (Kd.wK (p := ⟨t, 1, none⟩) (Kd.wK (p := ⟨t, 0, none⟩) (Kd.xH HL677_1.out J.out (by decide)) (fun _ hk => hk.2) (.string ((xY q j).f0))) (fun _ hk => hk.2) (.slice E ((xY q j).f1).length G)) (fun _ hk => hk.2) (.int .i64 ((xY q j).f2))) (fun _ hk => hk.2) (.int .i64 ((xY q j).f3))) (fun _ hk => ⟨hk.1.2, hk.1.1⟩))) hg hat) (aC (xz (g := t) (o := .cells #[.string ((xY q j).f0), .slice E ((xY q j).f1).length G, .int .i64 ((xY q j).f2), .int .i64 ((xY q j).f3)] 62 (0, 0)) (by (with_reducible repeat first | apply vm | apply vn | apply vl); refine vt (cs := #[.string ((xY q j).f0), .slice E ((xY q j).f1).length G, .int .i64 ((xY q j).f2), .int .i64 0]) ?_ 3 _ rfl; (with_reducible repeat first | apply vm | apply vn | apply vl); refine vt (cs := #[.string ((xY q j).f0), .slice E ((xY q j).f1).length G, .int .i64 0, .int .i64 0]) ?_ 2 _ rfl; (with_reducible repeat first | apply vm | apply vn | apply vl); refine vt (cs := #[.string ((xY q j).f0), .slice none 0 0, .int .i64 0, .int .i64 0]) ?_ 1 _ rfl; (with_reducible repeat first | apply vm | apply vn | apply vl); refine vt (cs := #[.string (⟨#[]⟩ : ByteArray), .slice none 0 0, .int .i64 0, .int .i64 0]) ?_ 0 _ rfl; (with_reducible repeat first | apply vm | apply vn | apply vl); exact J.out) hg (Kd.ja s.out J.out (by decide))) (aC hb (aE ho))))); clear D d HL677_1 J HB s; obtain ⟨D, d, HL677_1, J, HB, d5⟩ := n_; clear ho hb hg hat))
          go_roundg k2
          case measure => have := b4.out; have := b5.out; omega
          case rel => exact ⟨(d1), (wrap64 (j + 1)), rq, H', ⟨by have := b4.out; have := b5.out; omega⟩, ⟨rU d5.out⟩, ⟨by (with_reducible repeat (first | apply Kd.yh | apply Kd.yb | apply Kd.yE)); exact Kd.zp D.out (fun _ hk => hk.2)⟩, ⟨bU d.out⟩, ⟨bl⟩⟩
         ·rw [if_neg b8] at H
          exact nB H
        ·rw [if_neg b7] at H
         exact nB H
       ·rw [if_neg b6] at H
        exact nB H
      ·have H' := aE H
       clear H
       go_wp2
       go_roundg k2
       case measure => have := b4.out; have := b5.out; omega
       case rel => exact ⟨(a0), (wrap64 (L + 1)), rq, H', ⟨by have := b4.out; have := b5.out; omega⟩, ⟨rU s.out⟩, ⟨bU d.out⟩, ⟨bl⟩⟩
   ·obtain rfl := Option.some.inj H
    obtain ⟨g0, g1, g2, g3, g4, g5⟩ := yk d.out
    go_wp2
    go_ret
    exact ⟨_, re, rU s.out, bl⟩
end Go.Proofs.YtknclbodinfbeaaGreatDoor.PRunsBack
