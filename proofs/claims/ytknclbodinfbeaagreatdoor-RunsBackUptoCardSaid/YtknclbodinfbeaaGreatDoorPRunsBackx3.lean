-- printed (wip/tools/myprint.py)
import Derived.Test.YtknclbodinfbeaaGreatDoorPRunsBackx0
namespace Go.Proofs.YtknclbodinfbeaaGreatDoor.PRunsBack
open Go.RowKit Go.Proofs.YtknclbodinfbeaaGreatDoorW.PrintWords Go.Proofs.YtknclbodinfbeaaGreatDoorW.PrintLast Go.Proofs.YtknclbodinfbeaaGreatDoorW.PrintMore
attribute [local go_sem] yo ym yC yD xU xT yn yq
set_option linter.unusedVariables false
set_option linter.unusedSimpArgs false
set_option maxHeartbeats 8000000
set_option maxRecDepth 100000
def xf.l0 : Nat → List (wb) → List (yW) → Int → Int → Option ((List (wb)))
 | 0, _, _, _, _ => none
 | k + 1, x3, x6, x7, x8 => if x8 < x7 then (if 0 ≤ x8 then (if x8 < (x6.length : Int) then (if x3.length < 4398046511104 then (xf.l0 k (x3 ++ [(⟨(ye x6 x8).f0, (ye x6 x8).f1, (ye x6 x8).f2, (ye x6 x8).f3⟩ : wb)]) x6 x7 (wrap64 (x8 + 1))) else (none)) else (none)) else (none)) else (some x3)
def xf.f (k : Nat) (l0 : List (yW)) : Option ((List (wb))) := xf.l0 k ([] : List (wb)) l0 (l0.length : Int) 0
theorem xf.wt : ∀ k, (∀ y0 y1 y2 y3, vK (xf.l0 k y0 y1 y2 y3) (xf.l0 (k + 1) y0 y1 y2 y3))
 | 0 => fun _ _ _ _ r h => by simp [xf.l0] at h
 | k + 1 => by
  have ih0 := xf.wt k
  ·intro y0 y1 y2 y3
   unfold xf.l0
   repeat' first
   | (with_reducible exact ih0 _ _ _ _)
   | (with_reducible first | exact vK.refl _ | exact vK.none _ | apply vK.ite | apply vK.bind | intro)
theorem xf.mono : ∀ a0 k, vK (xf.f k a0) (xf.f (k + 1) a0) := by
 intro a0 k
 have ih0 := xf.wt k
 unfold xf.f
 repeat' first
   | (with_reducible exact ih0 _ _ _ _)
   | (with_reducible first | exact vK.refl _ | exact vK.none _ | apply vK.ite | apply vK.bind | intro)
theorem xf.calls (k : Nat) (A0 : Option Addr) (c0 : Nat) (l0 : List (yW)) (r : List (wb)) (w : World) (hr0 : Kd.C qh w A0 l0.length l0) (J : l0.length ≤ c0) (h : xf.f k l0 = some r) :
  Calls Tryz.prog 55 #[.slice A0 l0.length c0] w fun e w' => ∃ L : Value, e = .returned (L) ∧ Kd.R yj 105 w' w.heap.size (fun _ => True) L r ∧ Below w.heap.size w w' := by
 have hu99 := Tryz.underlying99
 have hu105 := Tryz.underlying105
 have a5 := aE hr0
 have b3 := aE J
 clear hr0 J
 have HB := bR w
 have H : (xf.l0 k ([] : List (wb)) l0 (l0.length : Int) 0) = some r := h
 clear h
 have H' := aE H
 clear H
 go_enter Tryz.func55, Tryz.ntmps55
 go_wp2
 go_loopg [3, 8] k (fun kq v3 v8 w' => ∃ (t : List (wb)) (d : Int), v8 = .int .i64 d ∧ Aside0 (xf.l0 kq t l0 (l0.length : Int) d = some r) ∧ Aside0 (kq ≤ k) ∧ Aside0 (Kd.R yj 105 w' w.heap.size (fun _ => True) v3 t) ∧ Aside0 (Below w.heap.size w w'))
 case atStart => exact ⟨(([] : List (wb))), (0), rq, H', ⟨Nat.le_refl _⟩, ⟨by first | exact Kd.yu _ _ _ _ _ | exact Kd.yR _ _ _ _ _ | exact Kd.yS _ _ _ _ _ | exact Kd.yP _ _ _ _ _ | exact Kd.yV _ _ _ _ _⟩, ⟨bl⟩⟩
 case round =>
  clear H'
  obtain ⟨t, d, rfl, HA, M, q, HB⟩ := hrel
  cases gk with
  | zero => exact absurd HA.out (by simp [xf.l0])
  | succ k1 =>
   have H := HA.out
   clear HA
   simp only [xf.l0] at H
   rcases iL H with H1 | H1 <;> clear H <;> obtain ⟨H, a9⟩ := H1
   ·by_cases c3 : 0 ≤ d
    ·rw [if_pos c3] at H
     have b0 := decide_eq_true c3
     clear c3
     by_cases c4 : d < (l0.length : Int)
     ·rw [if_pos c4] at H
      have b1 := decide_eq_true c4
      clear c4
      by_cases c5 : t.length < 4398046511104
      ·rw [if_pos c5] at H
       have O := aE c5
       clear c5
       obtain ⟨E, hy_⟩ : ∃ y_ : List (wb), y_ = (t ++ [(⟨(ye l0 d).f0, (ye l0 d).f1, (ye l0 d).f2, (ye l0 d).f3⟩ : wb)]) := ⟨_, rfl⟩
       replace H : (xf.l0 k1 E l0 (l0.length : Int) (wrap64 (d + 1))) = some r := rh
       have G := aE hy_
       clear hy_
       have H' := aE H
       clear H
       have B : 0 ≤ (d : Int) := dt
       have D : d < (l0.length : Int) := dt
       obtain ⟨a6, T, u, x, y, z⟩ := at_T99 a5.out d B D
       cases T
       replace u := hcB HB.out u
       replace x := hcB HB.out x
       replace y := hcB HB.out y
       replace z := hcB HB.out z
       replace B := eq_true B
       replace D := eq_true D
       go_wp2_with (first | ((with_reducible refine gd 5 rfl ?_); refine bx 5 #[.int .i64 0, .int .i64 0, .int .i64 0, .int .i64 0] 99 rfl rfl ?_; intro s hg w6 hbox hb; have n_ := aC (Kd.wg (rU q.out) hb) (aC (bs hb) (aC hbox (aC (gz hg) (aE (gz hg))))); clear q HB; obtain ⟨q, HB, j, a7, a8⟩ := n_; clear hb hbox hg; obtain ⟨X, Y, Z, a0, a1, a2, a3, a4⟩ := xP j.out) | ((with_reducible refine wU (b := .append) (xs := #[.tmp 12, .tmp 22]) rfl ?_); at_builtin; refine Kd.za yj (w0 := w) w.heap.size rfl (.tmp 12) (.tmp 22) 64 105 (.agg #[(.int .i64 0), (.int .i64 0), (.int .i64 0), (.int .i64 0)]) 32 rfl Tryz.underlying64 info105 rfl (by decide) (by omega) u3 t (⟨(ye l0 d).f0, (ye l0 d).f1, (ye l0 d).f2, (ye l0 d).f3⟩ : wb) [.int .i64 ((ye l0 d).f0), .int .i64 ((ye l0 d).f1), .int .i64 ((ye l0 d).f2), .int .i64 ((ye l0 d).f3)] (fun _ => True) (fun _ => False) rfl (by first | (go_simp; done) | (go_simp; rfl)) ?aP (fun _ hk => hk.elim) ?aF ?aO ?aB ?aS ?aL ?_; (case aP => exact xG _ _ _ (⟨(ye l0 d).f0, (ye l0 d).f1, (ye l0 d).f2, (ye l0 d).f3⟩ : wb)); (case aB => exact bl); (case aF => exact (fun _ _ => trivial)); (case aO => exact (rU (Kd.vU (Kd.wK (p := ⟨s, 3, none⟩) (Kd.wK (p := ⟨s, 2, none⟩) (Kd.wK (p := ⟨s, 1, none⟩) (Kd.wK (p := ⟨s, 0, none⟩) (Kd.xH q.out j.out (by decide)) (fun _ hk => hk.2) (.int .i64 ((ye l0 d).f0))) (fun _ hk => hk.2) (.int .i64 ((ye l0 d).f1))) (fun _ hk => hk.2) (.int .i64 ((ye l0 d).f2))) (fun _ hk => hk.2) (.int .i64 ((ye l0 d).f3))) (fun _ hk => trivial)))); (case aS => exact bz); (case aL => have := O.out; omega); intro b2 w8 ho hb hg hat; rw [← G.out] at ho; have n_ := aC (xz (g := s) (o := .cells #[.int .i64 ((ye l0 d).f0), .int .i64 ((ye l0 d).f1), .int .i64 ((ye l0 d).f2), .int .i64 ((ye l0 d).f3)] 99 (0, 0)) (by (with_reducible repeat first | apply vm | apply vn | apply vl); refine vt (cs := #[.int .i64 ((ye l0 d).f0), .int .i64 ((ye l0 d).f1), .int .i64 ((ye l0 d).f2), .int .i64 0]) ?_ 3 _ rfl; (with_reducible repeat first | apply vm | apply vn | apply vl); refine vt (cs := #[.int .i64 ((ye l0 d).f0), .int .i64 ((ye l0 d).f1), .int .i64 0, .int .i64 0]) ?_ 2 _ rfl; (with_reducible repeat first | apply vm | apply vn | apply vl); refine vt (cs := #[.int .i64 ((ye l0 d).f0), .int .i64 0, .int .i64 0, .int .i64 0]) ?_ 1 _ rfl; (with_reducible repeat first | apply vm | apply vn | apply vl); refine vt (cs := #[.int .i64 0, .int .i64 0, .int .i64 0, .int .i64 0]) ?_ 0 _ rfl; (with_reducible repeat first | apply vm | apply vn | apply vl); exact j.out) hg (Kd.ja q.out j.out (by decide))) (aC hb (aE ho)); clear j HB q; obtain ⟨j, HB, I⟩ := n_; clear ho hb hg hat))
       go_roundg k1
       case measure => have := M.out; omega
       case rel => exact ⟨(E), (wrap64 (d + 1)), rq, H', ⟨by have := M.out; omega⟩, ⟨rU I.out⟩, ⟨bl⟩⟩
      ·rw [if_neg c5] at H
       exact nB H
     ·rw [if_neg c4] at H
      exact nB H
    ·rw [if_neg c3] at H
     exact nB H
   ·obtain rfl := Option.some.inj H
    go_wp2
    go_ret
    exact ⟨_, re, rU q.out, bl⟩
def xX.f (k : Nat) (a0 : Int) : Option ((List (wb)) × Int) := if a0 = 0 then ((xf.f k (([(⟨1, 0, 0, 0⟩ : yW), (⟨2, 1, 1, 0⟩ : yW), (⟨3, 3, 3, 0⟩ : yW), (⟨4, 5, 11, 0⟩ : yW), (⟨5, 8, 43, 0⟩ : yW), (⟨5, 20, 299, 0⟩ : yW)] : List (yW)))).bind fun d => (some (d, 0))) else (if a0 = 1 then ((xf.f k (([(⟨1, 2, 0, 0⟩ : yW), (⟨2, 4, 4, 0⟩ : yW), (⟨3, 8, 20, 0⟩ : yW), (⟨4, 20, (-1), 1⟩ : yW), (⟨4, 0, 0, 2⟩ : yW)] : List (yW)))).bind fun e => (some (e, 0))) else (if a0 = 2 then ((xf.f k (([(⟨1, 0, 0, 0⟩ : yW), (⟨3, 2, 1, 0⟩ : yW), (⟨3, 2, (-1), 1⟩ : yW), (⟨3, 20, 5, 0⟩ : yW), (⟨3, 20, (-5), 1⟩ : yW)] : List (yW)))).bind fun j => (some (j, 0))) else (some (([] : List (wb)), 2))))
theorem xX.mono : ∀ a0 k, vK (xX.f k a0) (xX.f (k + 1) a0) := by
 intro a0 k
 unfold xX.f
 repeat' first
   | (with_reducible exact xf.mono _ _)
   | (with_reducible first | exact vK.refl _ | exact vK.none _ | apply vK.ite | apply vK.bind | intro)
theorem xX.calls (k : Nat) (a0 : Int) (r1 : List (wb)) (r2 : Int) (w : World) (h : xX.f k a0 = some (r1, r2)) :
  Calls Tryz.prog 35 #[.int .i64 a0] w fun e w' => ∃ X : Value, e = .returned (.tuple #[X, .int .i64 r2]) ∧ Kd.R yj 105 w' w.heap.size (fun _ => True) X r1 ∧ Below w.heap.size w w' := by
 have hu99 := Tryz.underlying99
 have HB := bR w
 have H := h
 unfold xX.f at H
 clear h
 rcases iE H with H1 | H1 <;> clear H <;> obtain ⟨H, b1, b2, c2⟩ := H1
 ·obtain ⟨t, hy_⟩ : ∃ y_ : List (yW), y_ = (([(⟨1, 0, 0, 0⟩ : yW), (⟨2, 1, 1, 0⟩ : yW), (⟨3, 3, 3, 0⟩ : yW), (⟨4, 5, 11, 0⟩ : yW), (⟨5, 8, 43, 0⟩ : yW), (⟨5, 20, 299, 0⟩ : yW)] : List (yW))) := ⟨_, rfl⟩
  replace H : ((xf.f k t).bind fun u => (some (u, 0))) = some (r1, r2) := rh
  have x := aE hy_
  clear hy_
  obtain ⟨u, A3, H⟩ := oB H
  try dsimp only at H
  simp only [Option.some.injEq, Prod.mk.injEq] at H
  obtain ⟨rfl, rfl⟩ := H
  go_enter Tryz.func35, Tryz.ntmps35
  go_wp2_with (first | ((with_reducible refine gd 13 rfl ?_); refine Kd.zZ qh _ 99 ?hg (N := 13) ?hd (xs := ([(⟨1, 0, 0, 0⟩ : yW), (⟨2, 1, 1, 0⟩ : yW), (⟨3, 3, 3, 0⟩ : yW), (⟨4, 5, 11, 0⟩ : yW), (⟨5, 8, 43, 0⟩ : yW), (⟨5, 20, 299, 0⟩ : yW)] : List (yW))) (inner := [.int .i64 1, .int .i64 0, .int .i64 0, .int .i64 0, .int .i64 2, .int .i64 1, .int .i64 1, .int .i64 0, .int .i64 3, .int .i64 3, .int .i64 3, .int .i64 0, .int .i64 4, .int .i64 5, .int .i64 11, .int .i64 0, .int .i64 5, .int .i64 8, .int .i64 43, .int .i64 0, .int .i64 5, .int .i64 20, .int .i64 299, .int .i64 0]) (ok := fun _ => True) (okp := fun _ => True) ?hr ?hp (fun _ hk => hk) trivial (Below.refl _ _) (Nat.le_refl _) (by simp) ?_; (case hd => rfl); (case hg => rfl); (case hr => first | (go_simp; done) | (go_simp; rfl)); (case hp => exact (xe.c4 (show Kd.M qh _ _ _ (⟨1, 0, 0, 0⟩ : yW) [.int .i64 1, .int .i64 0, .int .i64 0, .int .i64 0] from (zt _ _ _ (⟨1, 0, 0, 0⟩ : yW) )) (xe.c4 (show Kd.M qh _ _ _ (⟨2, 1, 1, 0⟩ : yW) [.int .i64 2, .int .i64 1, .int .i64 1, .int .i64 0] from (zt _ _ _ (⟨2, 1, 1, 0⟩ : yW) )) (xe.c4 (show Kd.M qh _ _ _ (⟨3, 3, 3, 0⟩ : yW) [.int .i64 3, .int .i64 3, .int .i64 3, .int .i64 0] from (zt _ _ _ (⟨3, 3, 3, 0⟩ : yW) )) (xe.c4 (show Kd.M qh _ _ _ (⟨4, 5, 11, 0⟩ : yW) [.int .i64 4, .int .i64 5, .int .i64 11, .int .i64 0] from (zt _ _ _ (⟨4, 5, 11, 0⟩ : yW) )) (xe.c4 (show Kd.M qh _ _ _ (⟨5, 8, 43, 0⟩ : yW) [.int .i64 5, .int .i64 8, .int .i64 43, .int .i64 0] from (zt _ _ _ (⟨5, 8, 43, 0⟩ : yW) )) (xe.c4 (show Kd.M qh _ _ _ (⟨5, 20, 299, 0⟩ : yW) [.int .i64 5, .int .i64 20, .int .i64 299, .int .i64 0] from (zt _ _ _ (⟨5, 20, 299, 0⟩ : yW) )) (xe.none _ _)))))))); intro b3 w4 y hb hg_ hnew_; clear hg_ hnew_; (first | rw [← x.out] at y | (simp only [Int.reduceToNat] at y; rw [← x.out] at y)); have n_ := aC (Kd.vS y bz) (aE (bs hb)); clear HB; obtain ⟨d, HB⟩ := n_; clear hb y; obtain ⟨a5, a6, a7⟩ := Kd.vY d.out; subst a7) | ((with_reducible refine gf 55 rfl ?_); refine gL (some 14) rfl rfl Tryz.func55 rfl #[.slice a5 t.length a6] rfl ?_; (with_reducible refine (xf.calls k _ _ t u _ ?side1 ?side2 A3.out).mono ?_); (case side1 => exact cU (Kd.R_reads' d.out).2.2); (case side2 => exact (Kd.R_reads' d.out).2.1); rintro e w7 ⟨b4, rfl, z, hb⟩; refine ⟨_, rfl, ?_⟩; have n_ := aC (Kd.wg (rU d.out) hb) (aC (Kd.vS z bz) (aE (bs hb))); clear d HB; obtain ⟨d, L, HB⟩ := n_))
  go_ret2
  exact ⟨_, re, rU L.out, bl⟩
 ·rcases iE H with H1 | H1 <;> clear H <;> obtain ⟨H, b5, b6, c8⟩ := H1
  ·obtain ⟨B, hy_⟩ : ∃ y_ : List (yW), y_ = (([(⟨1, 2, 0, 0⟩ : yW), (⟨2, 4, 4, 0⟩ : yW), (⟨3, 8, 20, 0⟩ : yW), (⟨4, 20, (-1), 1⟩ : yW), (⟨4, 0, 0, 2⟩ : yW)] : List (yW))) := ⟨_, rfl⟩
   replace H : ((xf.f k B).bind fun D => (some (D, 0))) = some (r1, r2) := rh
   have E := aE hy_
   clear hy_
   obtain ⟨D, A9, H⟩ := oB H
   try dsimp only at H
   simp only [Option.some.injEq, Prod.mk.injEq] at H
   obtain ⟨rfl, rfl⟩ := H
   go_enter Tryz.func35, Tryz.ntmps35
   go_wp2_with (first | ((with_reducible refine gd 22 rfl ?_); refine Kd.zZ qh _ 99 ?hg (N := 22) ?hd (xs := ([(⟨1, 2, 0, 0⟩ : yW), (⟨2, 4, 4, 0⟩ : yW), (⟨3, 8, 20, 0⟩ : yW), (⟨4, 20, (-1), 1⟩ : yW), (⟨4, 0, 0, 2⟩ : yW)] : List (yW))) (inner := [.int .i64 1, .int .i64 2, .int .i64 0, .int .i64 0, .int .i64 2, .int .i64 4, .int .i64 4, .int .i64 0, .int .i64 3, .int .i64 8, .int .i64 20, .int .i64 0, .int .i64 4, .int .i64 20, .int .i64 (-1), .int .i64 1, .int .i64 4, .int .i64 0, .int .i64 0, .int .i64 2]) (ok := fun _ => True) (okp := fun _ => True) ?hr ?hp (fun _ hk => hk) trivial (Below.refl _ _) (Nat.le_refl _) (by simp) ?_; (case hd => rfl); (case hg => rfl); (case hr => first | (go_simp; done) | (go_simp; rfl)); (case hp => exact (xe.c4 (show Kd.M qh _ _ _ (⟨1, 2, 0, 0⟩ : yW) [.int .i64 1, .int .i64 2, .int .i64 0, .int .i64 0] from (zt _ _ _ (⟨1, 2, 0, 0⟩ : yW) )) (xe.c4 (show Kd.M qh _ _ _ (⟨2, 4, 4, 0⟩ : yW) [.int .i64 2, .int .i64 4, .int .i64 4, .int .i64 0] from (zt _ _ _ (⟨2, 4, 4, 0⟩ : yW) )) (xe.c4 (show Kd.M qh _ _ _ (⟨3, 8, 20, 0⟩ : yW) [.int .i64 3, .int .i64 8, .int .i64 20, .int .i64 0] from (zt _ _ _ (⟨3, 8, 20, 0⟩ : yW) )) (xe.c4 (show Kd.M qh _ _ _ (⟨4, 20, (-1), 1⟩ : yW) [.int .i64 4, .int .i64 20, .int .i64 (-1), .int .i64 1] from (zt _ _ _ (⟨4, 20, (-1), 1⟩ : yW) )) (xe.c4 (show Kd.M qh _ _ _ (⟨4, 0, 0, 2⟩ : yW) [.int .i64 4, .int .i64 0, .int .i64 0, .int .i64 2] from (zt _ _ _ (⟨4, 0, 0, 2⟩ : yW) )) (xe.none _ _))))))); intro b7 c1 r hb hg_ hnew_; clear hg_ hnew_; (first | rw [← E.out] at r | (simp only [Int.reduceToNat] at r; rw [← E.out] at r)); have n_ := aC (Kd.vS r bz) (aE (bs hb)); clear HB; obtain ⟨j, HB⟩ := n_; clear hb r; obtain ⟨Y, Z, a1⟩ := Kd.vY j.out; subst a1) | ((with_reducible refine gf 55 rfl ?_); refine gL (some 23) rfl rfl Tryz.func55 rfl #[.slice Y B.length Z] rfl ?_; (with_reducible refine (xf.calls k _ _ B D _ ?side1 ?side2 A9.out).mono ?_); (case side1 => exact cU (Kd.R_reads' j.out).2.2); (case side2 => exact (Kd.R_reads' j.out).2.1); rintro e d0 ⟨b8, rfl, z, hb⟩; refine ⟨_, rfl, ?_⟩; have n_ := aC (Kd.wg (rU j.out) hb) (aC (Kd.vS z bz) (aE (bs hb))); clear j HB; obtain ⟨j, O, HB⟩ := n_))
   go_ret2
   exact ⟨_, re, rU O.out, bl⟩
  ·rcases iE H with H1 | H1 <;> clear H <;> obtain ⟨H, a8, a9, d1⟩ := H1
   ·obtain ⟨G, hy_⟩ : ∃ y_ : List (yW), y_ = (([(⟨1, 0, 0, 0⟩ : yW), (⟨3, 2, 1, 0⟩ : yW), (⟨3, 2, (-1), 1⟩ : yW), (⟨3, 20, 5, 0⟩ : yW), (⟨3, 20, (-5), 1⟩ : yW)] : List (yW))) := ⟨_, rfl⟩
    replace H : ((xf.f k G).bind fun I => (some (I, 0))) = some (r1, r2) := rh
    have J := aE hy_
    clear hy_
    obtain ⟨I, b0, H⟩ := oB H
    try dsimp only at H
    simp only [Option.some.injEq, Prod.mk.injEq] at H
    obtain ⟨rfl, rfl⟩ := H
    go_enter Tryz.func35, Tryz.ntmps35
    go_wp2_with (first | ((with_reducible refine gd 31 rfl ?_); refine Kd.zZ qh _ 99 ?hg (N := 31) ?hd (xs := ([(⟨1, 0, 0, 0⟩ : yW), (⟨3, 2, 1, 0⟩ : yW), (⟨3, 2, (-1), 1⟩ : yW), (⟨3, 20, 5, 0⟩ : yW), (⟨3, 20, (-5), 1⟩ : yW)] : List (yW))) (inner := [.int .i64 1, .int .i64 0, .int .i64 0, .int .i64 0, .int .i64 3, .int .i64 2, .int .i64 1, .int .i64 0, .int .i64 3, .int .i64 2, .int .i64 (-1), .int .i64 1, .int .i64 3, .int .i64 20, .int .i64 5, .int .i64 0, .int .i64 3, .int .i64 20, .int .i64 (-5), .int .i64 1]) (ok := fun _ => True) (okp := fun _ => True) ?hr ?hp (fun _ hk => hk) trivial (Below.refl _ _) (Nat.le_refl _) (by simp) ?_; (case hd => rfl); (case hg => rfl); (case hr => first | (go_simp; done) | (go_simp; rfl)); (case hp => exact (xe.c4 (show Kd.M qh _ _ _ (⟨1, 0, 0, 0⟩ : yW) [.int .i64 1, .int .i64 0, .int .i64 0, .int .i64 0] from (zt _ _ _ (⟨1, 0, 0, 0⟩ : yW) )) (xe.c4 (show Kd.M qh _ _ _ (⟨3, 2, 1, 0⟩ : yW) [.int .i64 3, .int .i64 2, .int .i64 1, .int .i64 0] from (zt _ _ _ (⟨3, 2, 1, 0⟩ : yW) )) (xe.c4 (show Kd.M qh _ _ _ (⟨3, 2, (-1), 1⟩ : yW) [.int .i64 3, .int .i64 2, .int .i64 (-1), .int .i64 1] from (zt _ _ _ (⟨3, 2, (-1), 1⟩ : yW) )) (xe.c4 (show Kd.M qh _ _ _ (⟨3, 20, 5, 0⟩ : yW) [.int .i64 3, .int .i64 20, .int .i64 5, .int .i64 0] from (zt _ _ _ (⟨3, 20, 5, 0⟩ : yW) )) (xe.c4 (show Kd.M qh _ _ _ (⟨3, 20, (-5), 1⟩ : yW) [.int .i64 3, .int .i64 20, .int .i64 (-5), .int .i64 1] from (zt _ _ _ (⟨3, 20, (-5), 1⟩ : yW) )) (xe.none _ _))))))); intro b9 d2 s hb hg_ hnew_; clear hg_ hnew_; (first | rw [← J.out] at s | (simp only [Int.reduceToNat] at s; rw [← J.out] at s)); have n_ := aC (Kd.vS s bz) (aE (bs hb)); clear HB; obtain ⟨q, HB⟩ := n_; clear hb s; obtain ⟨a2, a3, a4⟩ := Kd.vY q.out; subst a4) | ((with_reducible refine gf 55 rfl ?_); refine gL (some 32) rfl rfl Tryz.func55 rfl #[.slice a2 G.length a3] rfl ?_; (with_reducible refine (xf.calls k _ _ G I _ ?side1 ?side2 b0.out).mono ?_); (case side1 => exact cU (Kd.R_reads' q.out).2.2); (case side2 => exact (Kd.R_reads' q.out).2.1); rintro e d3 ⟨c0, rfl, z, hb⟩; refine ⟨_, rfl, ?_⟩; have n_ := aC (Kd.wg (rU q.out) hb) (aC (Kd.vS z bz) (aE (bs hb))); clear q HB; obtain ⟨q, T, HB⟩ := n_))
    go_ret2
    exact ⟨_, re, rU T.out, bl⟩
   ·simp only [Option.some.injEq, Prod.mk.injEq] at H
    obtain ⟨rfl, rfl⟩ := H
    go_enter Tryz.func35, Tryz.ntmps35
    go_wp2
    go_ret2
    exact ⟨_, re, by first | exact Kd.yu _ _ _ _ _ | exact Kd.yR _ _ _ _ _ | exact Kd.yS _ _ _ _ _ | exact Kd.yP _ _ _ _ _ | exact Kd.yV _ _ _ _ _, bl⟩
def zF.f (k : Int) (d : Int) (e : Int) (j : Int) : Option (Bool) := if k < 0 then (some false) else (if k > 15 then (some false) else (if d < 0 then (some false) else (if d > 20 then (some false) else (if e < (-1048576) then (some false) else (if e > 1048576 then (some false) else (if j < 0 then (some false) else (if j > 2 then (some false) else (if j = 2 then (if d = 0 then (some (e == 0)) else (some false)) else (some true)))))))))
theorem zF.calls (s : Int) (t : Int) (u : Int) (x : Int) (r : Bool) (w : World) (h : zF.f s t u x = some r) :
  Calls Tryz.prog 79 #[.agg #[.int .i64 s, .int .i64 t, .int .i64 u, .int .i64 x]] w fun e w' => e = .returned (.bool r) ∧ Below w.heap.size w w' := by
 have hu105 := Tryz.underlying105
 have HB := bR w
 have H := h
 unfold zF.f at H
 clear h
 rcases iL H with H1 | H1 <;> clear H <;> obtain ⟨H, j5⟩ := H1
 ·obtain rfl := Option.some.inj H
  go_enter Tryz.func79, Tryz.ntmps79
  go_wp2_with (first | ((with_reducible refine gd 1 rfl ?_); refine bx 1 #[.int .i64 s, .int .i64 t, .int .i64 u, .int .i64 x] 105 rfl rfl ?_; intro j hg w3 hbox hb; have n_ := aC (bs hb) (aC hbox (aC (gz hg) (aE (gz hg)))); clear HB; obtain ⟨HB, d, k, q⟩ := n_; clear hb hbox hg; obtain ⟨g5, g6, g7, g8, g9, h3, h4, h5⟩ := xP d.out))
  go_ret
  exact ⟨re, bl⟩
 ·rcases iL H with H1 | H1 <;> clear H <;> obtain ⟨H, j6⟩ := H1
  ·obtain rfl := Option.some.inj H
   go_enter Tryz.func79, Tryz.ntmps79
   go_wp2_with (first | ((with_reducible refine gd 1 rfl ?_); refine bx 1 #[.int .i64 s, .int .i64 t, .int .i64 u, .int .i64 x] 105 rfl rfl ?_; intro j hg w6 hbox hb; have n_ := aC (bs hb) (aC hbox (aC (gz hg) (aE (gz hg)))); clear HB; obtain ⟨HB, d, k, q⟩ := n_; clear hb hbox hg; obtain ⟨h6, h7, h8, h9, i0, i1, i2, i3⟩ := xP d.out))
   go_ret
   exact ⟨re, bl⟩
  ·rcases iL H with H1 | H1 <;> clear H <;> obtain ⟨H, j7⟩ := H1
   ·obtain rfl := Option.some.inj H
    go_enter Tryz.func79, Tryz.ntmps79
    go_wp2_with (first | ((with_reducible refine gd 1 rfl ?_); refine bx 1 #[.int .i64 s, .int .i64 t, .int .i64 u, .int .i64 x] 105 rfl rfl ?_; intro j hg w9 hbox hb; have n_ := aC (bs hb) (aC hbox (aC (gz hg) (aE (gz hg)))); clear HB; obtain ⟨HB, d, k, q⟩ := n_; clear hb hbox hg; obtain ⟨y, z, B, D, E, G, I, J⟩ := xP d.out))
    go_ret
    exact ⟨re, bl⟩
   ·rcases iL H with H1 | H1 <;> clear H <;> obtain ⟨H, i4⟩ := H1
    ·obtain rfl := Option.some.inj H
     go_enter Tryz.func79, Tryz.ntmps79
     go_wp2_with (first | ((with_reducible refine gd 1 rfl ?_); refine bx 1 #[.int .i64 s, .int .i64 t, .int .i64 u, .int .i64 x] 105 rfl rfl ?_; intro j hg j8 hbox hb; have n_ := aC (bs hb) (aC hbox (aC (gz hg) (aE (gz hg)))); clear HB; obtain ⟨HB, d, k, q⟩ := n_; clear hb hbox hg; obtain ⟨L, M, O, T, X, Y, Z, a0⟩ := xP d.out))
     go_ret
     exact ⟨re, bl⟩
    ·rcases iL H with H1 | H1 <;> clear H <;> obtain ⟨H, i5⟩ := H1
     ·obtain rfl := Option.some.inj H
      go_enter Tryz.func79, Tryz.ntmps79
      go_wp2_with (first | ((with_reducible refine gd 1 rfl ?_); refine bx 1 #[.int .i64 s, .int .i64 t, .int .i64 u, .int .i64 x] 105 rfl rfl ?_; intro j hg j9 hbox hb; have n_ := aC (bs hb) (aC hbox (aC (gz hg) (aE (gz hg)))); clear HB; obtain ⟨HB, d, k, q⟩ := n_; clear hb hbox hg; obtain ⟨a1, a2, a3, a4, a5, a6, a7, a8⟩ := xP d.out))
      go_ret
      exact ⟨re, bl⟩
     ·rcases iL H with H1 | H1 <;> clear H <;> obtain ⟨H, i6⟩ := H1
      ·obtain rfl := Option.some.inj H
       go_enter Tryz.func79, Tryz.ntmps79
       go_wp2_with (first | ((with_reducible refine gd 1 rfl ?_); refine bx 1 #[.int .i64 s, .int .i64 t, .int .i64 u, .int .i64 x] 105 rfl rfl ?_; intro j hg k0 hbox hb; have n_ := aC (bs hb) (aC hbox (aC (gz hg) (aE (gz hg)))); clear HB; obtain ⟨HB, d, k, q⟩ := n_; clear hb hbox hg; obtain ⟨a9, b0, b1, b2, b3, b4, b5, b6⟩ := xP d.out))
       go_ret
       exact ⟨re, bl⟩
      ·rcases iL H with H1 | H1 <;> clear H <;> obtain ⟨H, i7⟩ := H1
       ·obtain rfl := Option.some.inj H
        go_enter Tryz.func79, Tryz.ntmps79
        go_wp2_with (first | ((with_reducible refine gd 1 rfl ?_); refine bx 1 #[.int .i64 s, .int .i64 t, .int .i64 u, .int .i64 x] 105 rfl rfl ?_; intro j hg k1 hbox hb; have n_ := aC (bs hb) (aC hbox (aC (gz hg) (aE (gz hg)))); clear HB; obtain ⟨HB, d, k, q⟩ := n_; clear hb hbox hg; obtain ⟨b7, b8, b9, c0, c1, d0, d1, d2⟩ := xP d.out))
        go_ret
        exact ⟨re, bl⟩
       ·rcases iL H with H1 | H1 <;> clear H <;> obtain ⟨H, i8⟩ := H1
        ·obtain rfl := Option.some.inj H
         go_enter Tryz.func79, Tryz.ntmps79
         go_wp2_with (first | ((with_reducible refine gd 1 rfl ?_); refine bx 1 #[.int .i64 s, .int .i64 t, .int .i64 u, .int .i64 x] 105 rfl rfl ?_; intro j hg k2 hbox hb; have n_ := aC (bs hb) (aC hbox (aC (gz hg) (aE (gz hg)))); clear HB; obtain ⟨HB, d, k, q⟩ := n_; clear hb hbox hg; obtain ⟨d3, d4, d5, d6, d7, d8, d9, e0⟩ := xP d.out))
         go_ret
         exact ⟨re, bl⟩
        ·rcases iE H with H1 | H1 <;> clear H <;> obtain ⟨H, i9, j2, k3⟩ := H1
         ·rcases iE H with H1 | H1 <;> clear H <;> obtain ⟨H, j3, j4, k4⟩ := H1
          ·obtain rfl := Option.some.inj H
           go_enter Tryz.func79, Tryz.ntmps79
           go_wp2_with (first | ((with_reducible refine gd 1 rfl ?_); refine bx 1 #[.int .i64 s, .int .i64 t, .int .i64 u, .int .i64 x] 105 rfl rfl ?_; intro j hg k5 hbox hb; have n_ := aC (bs hb) (aC hbox (aC (gz hg) (aE (gz hg)))); clear HB; obtain ⟨HB, d, k, q⟩ := n_; clear hb hbox hg; obtain ⟨e1, e2, e3, e4, e5, e6, e7, e8⟩ := xP d.out))
           go_ret
           exact ⟨re, bl⟩
          ·obtain rfl := Option.some.inj H
           go_enter Tryz.func79, Tryz.ntmps79
           go_wp2_with (first | ((with_reducible refine gd 1 rfl ?_); refine bx 1 #[.int .i64 s, .int .i64 t, .int .i64 u, .int .i64 x] 105 rfl rfl ?_; intro j hg k6 hbox hb; have n_ := aC (bs hb) (aC hbox (aC (gz hg) (aE (gz hg)))); clear HB; obtain ⟨HB, d, k, q⟩ := n_; clear hb hbox hg; obtain ⟨e9, f0, f1, f2, f3, f4, f5, f6⟩ := xP d.out))
           go_ret
           exact ⟨re, bl⟩
         ·obtain rfl := Option.some.inj H
          go_enter Tryz.func79, Tryz.ntmps79
          go_wp2_with (first | ((with_reducible refine gd 1 rfl ?_); refine bx 1 #[.int .i64 s, .int .i64 t, .int .i64 u, .int .i64 x] 105 rfl rfl ?_; intro j hg k7 hbox hb; have n_ := aC (bs hb) (aC hbox (aC (gz hg) (aE (gz hg)))); clear HB; obtain ⟨HB, d, k, q⟩ := n_; clear hb hbox hg; obtain ⟨f7, f8, f9, g0, g1, g2, g3, g4⟩ := xP d.out))
          go_ret
          exact ⟨re, bl⟩
def wV.l0 : Nat → Int → Int → Int → List (wb) → Int → Int → Option (Int × Int × Int)
 | 0, _, _, _, _, _, _ => none
 | k + 1, x2, x3, x4, x7, x8, x9 => if x9 < x8 then (if 0 ≤ x9 then (if x9 < (x7.length : Int) then (if ((vk x7 x9).f0) = 0 then (wV.l0 k x2 x3 x4 x7 x8 (wrap64 (x9 + 1))) else (if 0 ≤ (wrap64 (15 - ((vk x7 x9).f0))) then (if ((vk x7 x9).f3) = 2 then (wV.l0 k (wrap64 (x2 + (shl .i64 1 (wrap64 (15 - ((vk x7 x9).f0)))))) (wrap64 (x3 + 1)) (wrap64 (x4 + 1)) x7 x8 (wrap64 (x9 + 1))) else (wV.l0 k (wrap64 (x2 + (shl .i64 1 (wrap64 (15 - ((vk x7 x9).f0)))))) (wrap64 (x3 + 1)) x4 x7 x8 (wrap64 (x9 + 1)))) else (none))) else (none)) else (none)) else (some (x2, x3, x4))
def wV.f (k : Nat) (l0 : List (wb)) : Option (Int × Int × Int) := wV.l0 k 0 0 0 l0 (l0.length : Int) 0
theorem wV.wt : ∀ k, (∀ y0 y1 y2 y3 y4 y5, vK (wV.l0 k y0 y1 y2 y3 y4 y5) (wV.l0 (k + 1) y0 y1 y2 y3 y4 y5))
 | 0 => fun _ _ _ _ _ _ r h => by simp [wV.l0] at h
 | k + 1 => by
  have ih0 := wV.wt k
  ·intro y0 y1 y2 y3 y4 y5
   unfold wV.l0
   repeat' first
   | (with_reducible exact ih0 _ _ _ _ _ _)
   | (with_reducible first | exact vK.refl _ | exact vK.none _ | apply vK.ite | apply vK.bind | intro)
theorem wV.mono : ∀ a0 k, vK (wV.f k a0) (wV.f (k + 1) a0) := by
 intro a0 k
 have ih0 := wV.wt k
 unfold wV.f
 repeat' first
   | (with_reducible exact ih0 _ _ _ _ _ _)
   | (with_reducible first | exact vK.refl _ | exact vK.none _ | apply vK.ite | apply vK.bind | intro)
theorem wV.calls (k : Nat) (A0 : Option Addr) (c0 : Nat) (l0 : List (wb)) (r1 : Int) (r2 : Int) (r3 : Int) (w : World) (hr0 : Kd.C yj w A0 l0.length l0) (a1 : l0.length ≤ c0) (h : wV.f k l0 = some (r1, r2, r3)) :
  Calls Tryz.prog 80 #[.slice A0 l0.length c0] w fun e w' => e = .returned (.tuple #[.int .i64 r1, .int .i64 r2, .int .i64 r3]) ∧ Below w.heap.size w w' := by
 have hu105 := Tryz.underlying105
 have a0 := aE hr0
 have e9 := aE a1
 clear hr0 a1
 have HB := bR w
 have H : (wV.l0 k 0 0 0 l0 (l0.length : Int) 0) = some (r1, r2, r3) := h
 clear h
 have H' := aE H
 clear H
 go_enter Tryz.func80, Tryz.ntmps80
 go_wp2
 go_loopg [2, 3, 4, 9] k (fun kq v2 v3 v4 v9 w' => ∃ (x : Int) (y : Int) (z : Int) (d : Int), v2 = .int .i64 x ∧ v3 = .int .i64 y ∧ v4 = .int .i64 z ∧ v9 = .int .i64 d ∧ Aside0 (wV.l0 kq x y z l0 (l0.length : Int) d = some (r1, r2, r3)) ∧ Aside0 (kq ≤ k) ∧ Aside0 (Below w.heap.size w w'))
 case atStart => exact ⟨(0), (0), (0), (0), rq, rq, rq, rq, H', ⟨Nat.le_refl _⟩, ⟨bl⟩⟩
 case round =>
  clear H'
  obtain ⟨x, y, z, d, rfl, rfl, rfl, rfl, HA, M, HB⟩ := hrel
  cases gk with
  | zero => exact absurd HA.out (by simp [wV.l0])
  | succ k1 =>
   have H := HA.out
   clear HA
   simp only [wV.l0] at H
   rcases iL H with H1 | H1 <;> clear H <;> obtain ⟨H, e2⟩ := H1
   ·by_cases c3 : 0 ≤ d
    ·rw [if_pos c3] at H
     have e3 := decide_eq_true c3
     clear c3
     by_cases c4 : d < (l0.length : Int)
     ·rw [if_pos c4] at H
      have e4 := decide_eq_true c4
      clear c4
      rcases iE H with H1 | H1 <;> clear H <;> obtain ⟨H, e5, e6, c5⟩ := H1
      ·have H' := aE H
       clear H
       have t : 0 ≤ (d : Int) := dt
       have u : d < (l0.length : Int) := dt
       obtain ⟨O, I, j, q, r, s⟩ := xr a0.out d t u
       cases I
       replace j := hcB HB.out j
       replace q := hcB HB.out q
       replace r := hcB HB.out r
       replace s := hcB HB.out s
       replace t := eq_true t
       replace u := eq_true u
       go_wp2_with (first | ((with_reducible refine gd 6 rfl ?_); refine bx 6 #[.int .i64 0, .int .i64 0, .int .i64 0, .int .i64 0] 105 rfl rfl ?_; intro T hg w6 hbox hb; have n_ := aC (bs hb) (aC hbox (aC (gz hg) (aE (gz hg)))); clear HB; obtain ⟨HB, G, X, Y⟩ := n_; clear hb hbox hg; obtain ⟨b8, b9, c1, d0, d1, d2, d3, d4⟩ := xP G.out))
       go_roundg k1
       case measure => have := M.out; omega
       case rel => exact ⟨(x), (y), (z), (wrap64 (d + 1)), rq, rq, rq, rq, H', ⟨by have := M.out; omega⟩, ⟨bl⟩⟩
      ·obtain ⟨D, Z⟩ : ∃ j_ : Int, (wrap64 (15 - ((vk l0 d).f0))) = j_ := ⟨_, rfl⟩
       replace H : (if 0 ≤ (D) then (if ((vk l0 d).f3) = 2 then (wV.l0 k1 (wrap64 (x + (shl .i64 1 (D)))) (wrap64 (y + 1)) (wrap64 (z + 1)) l0 (l0.length : Int) (wrap64 (d + 1))) else (wV.l0 k1 (wrap64 (x + (shl .i64 1 (D)))) (wrap64 (y + 1)) z l0 (l0.length : Int) (wrap64 (d + 1)))) else (none)) = some (r1, r2, r3) := by first | (rw [Z] at H; exact H) | (simp only [Z] at H ⊢; exact H)
       have d9 : (IntKind.i64.wrap (15 - ((vk l0 d).f0))) = D := (xS _).trans Z
       by_cases c9 : 0 ≤ (D)
       ·rw [if_pos c9] at H
        have e7 := eq_true c9
        have e8 := decide_eq_true c9
        clear c9
        obtain ⟨B, E⟩ : ∃ j_ : Int, (shl .i64 1 (D)) = j_ := ⟨_, rfl⟩
        replace H : (if ((vk l0 d).f3) = 2 then (wV.l0 k1 (wrap64 (x + (B))) (wrap64 (y + 1)) (wrap64 (z + 1)) l0 (l0.length : Int) (wrap64 (d + 1))) else (wV.l0 k1 (wrap64 (x + (B))) (wrap64 (y + 1)) z l0 (l0.length : Int) (wrap64 (d + 1)))) = some (r1, r2, r3) := by first | (rw [E] at H; exact H) | (simp only [E] at H ⊢; exact H)
        have J : (IntKind.i64.wrap (1 * 2 ^ min (D).toNat 64)) = B := E
        have L : (D) ≤ 64 → (IntKind.i64.wrap (1 * 2 ^ (D).toNat)) = B := zP E
        have d5 : (IntKind.i64.wrap (2 ^ min (D).toNat 64)) = B := by have h_ := J; rw [Int.one_mul] at h_; exact h_
        have d6 : (D) ≤ 64 → (IntKind.i64.wrap (2 ^ (D).toNat)) = B := fun hle_ => by have h_ := L hle_; rw [Int.one_mul] at h_; exact h_
        have d7 : (wrap64 (1 * 2 ^ min (D).toNat 64)) = B := (xS _).symm.trans J
        have d8 : (D) ≤ 64 → (wrap64 (1 * 2 ^ (D).toNat)) = B := fun h_ => (xS _).symm.trans (L h_)
        rcases iE H with H1 | H1 <;> clear H <;> obtain ⟨H, e0, e1, f1⟩ := H1
        ·have H' := aE H
         clear H
         have t : 0 ≤ (d : Int) := dt
         have u : d < (l0.length : Int) := dt
         obtain ⟨O, I, j, q, r, s⟩ := xr a0.out d t u
         cases I
         replace j := hcB HB.out j
         replace q := hcB HB.out q
         replace r := hcB HB.out r
         replace s := hcB HB.out s
         replace t := eq_true t
         replace u := eq_true u
         go_wp2_with (first | ((with_reducible refine gd 6 rfl ?_); refine bx 6 #[.int .i64 0, .int .i64 0, .int .i64 0, .int .i64 0] 105 rfl rfl ?_; intro T hg f2 hbox hb; have n_ := aC (bs hb) (aC hbox (aC (gz hg) (aE (gz hg)))); clear HB; obtain ⟨HB, G, X, Y⟩ := n_; clear hb hbox hg; obtain ⟨a2, a3, a4, a5, a6, a7, a8, a9⟩ := xP G.out))
         go_roundg k1
         case measure => have := M.out; omega
         case rel => exact ⟨(wrap64 (x + (B))), (wrap64 (y + 1)), (wrap64 (z + 1)), (wrap64 (d + 1)), (by first | rfl | (simp; done) | (simp only [← E] <;> (first | rfl | simp)) | (simp [*]; done)), rq, rq, rq, H', ⟨by have := M.out; omega⟩, ⟨bl⟩⟩
        ·have H' := aE H
         clear H
         have t : 0 ≤ (d : Int) := dt
         have u : d < (l0.length : Int) := dt
         obtain ⟨O, I, j, q, r, s⟩ := xr a0.out d t u
         cases I
         replace j := hcB HB.out j
         replace q := hcB HB.out q
         replace r := hcB HB.out r
         replace s := hcB HB.out s
         replace t := eq_true t
         replace u := eq_true u
         go_wp2_with (first | ((with_reducible refine gd 6 rfl ?_); refine bx 6 #[.int .i64 0, .int .i64 0, .int .i64 0, .int .i64 0] 105 rfl rfl ?_; intro T hg f4 hbox hb; have n_ := aC (bs hb) (aC hbox (aC (gz hg) (aE (gz hg)))); clear HB; obtain ⟨HB, G, X, Y⟩ := n_; clear hb hbox hg; obtain ⟨b0, b1, b2, b3, b4, b5, b6, b7⟩ := xP G.out))
         go_roundg k1
         case measure => have := M.out; omega
         case rel => exact ⟨(wrap64 (x + (B))), (wrap64 (y + 1)), (z), (wrap64 (d + 1)), (by first | rfl | (simp; done) | (simp only [← E] <;> (first | rfl | simp)) | (simp [*]; done)), rq, rq, rq, H', ⟨by have := M.out; omega⟩, ⟨bl⟩⟩
       ·rw [if_neg c9] at H
        exact nB H
     ·rw [if_neg c4] at H
      exact nB H
    ·rw [if_neg c3] at H
     exact nB H
   ·simp only [Option.some.injEq, Prod.mk.injEq] at H
    obtain ⟨rfl, rfl, rfl⟩ := H
    go_wp2
    go_ret3
    exact ⟨re, bl⟩
def xi.l0 : Nat → List (wb) → List (wb) → Int → Int → Option (Bool)
 | 0, _, _, _, _ => none
 | k + 1, x0, j, q, d => if d < q then (if 0 ≤ d then (if d < (j.length : Int) then ((zF.f ((vk j d).f0) ((vk j d).f1) ((vk j d).f2) ((vk j d).f3)).bind fun r => (if r = true then (xi.l0 k x0 j q (wrap64 (d + 1))) else (some false))) else (none)) else (none)) else ((wV.f k x0).bind fun e => (if e.2.1 > 0 then (if e.2.2 ≤ 1 then (some (decide (e.1 ≤ 32768))) else (some false)) else (some false)))
def xi.f (k : Nat) (l0 : List (wb)) : Option (Bool) := if (l0.length : Int) > 64 then (some false) else (xi.l0 k l0 l0 (l0.length : Int) 0)
theorem xi.wt : ∀ k, (∀ y0 y1 y2 y3, vK (xi.l0 k y0 y1 y2 y3) (xi.l0 (k + 1) y0 y1 y2 y3))
 | 0 => fun _ _ _ _ r h => by simp [xi.l0] at h
 | k + 1 => by
  have ih0 := xi.wt k
  ·intro y0 y1 y2 y3
   unfold xi.l0
   repeat' first
   | (with_reducible exact ih0 _ _ _ _)
   | (with_reducible exact wV.mono _ _)
   | (with_reducible first | exact vK.refl _ | exact vK.none _ | apply vK.ite | apply vK.bind | intro)
theorem xi.mono : ∀ a0 k, vK (xi.f k a0) (xi.f (k + 1) a0) := by
 intro a0 k
 have ih0 := xi.wt k
 unfold xi.f
 repeat' first
   | (with_reducible exact ih0 _ _ _ _)
   | (with_reducible exact wV.mono _ _)
   | (with_reducible first | exact vK.refl _ | exact vK.none _ | apply vK.ite | apply vK.bind | intro)
theorem xi.calls (k : Nat) (A0 : Option Addr) (c0 : Nat) (l0 : List (wb)) (r : Bool) (w : World) (hr0 : Kd.C yj w A0 l0.length l0) (X : l0.length ≤ c0) (h : xi.f k l0 = some r) :
  Calls Tryz.prog 56 #[.slice A0 l0.length c0] w fun e w' => e = .returned (.bool r) ∧ Below w.heap.size w w' := by
 have hu105 := Tryz.underlying105
 have B := aE hr0
 have J := aE X
 clear hr0 X
 have HB := bR w
 have H : (if (l0.length : Int) > 64 then (some false) else (xi.l0 k l0 l0 (l0.length : Int) 0)) = some r := h
 clear h
 by_cases c2 : (l0.length : Int) > 64
 ·rw [if_pos c2] at H
  have Y := decide_eq_true c2
  have Z : decide (64 < l0.length) = true := decide_eq_true (by omega)
  clear c2
  obtain rfl := Option.some.inj H
  go_enter Tryz.func56, Tryz.ntmps56
  go_wp2
  go_ret
  exact ⟨re, bl⟩
 ·rw [if_neg c2] at H
  have Y := decide_eq_false c2
  have Z : decide (64 < l0.length) = false := decide_eq_false (by omega)
  clear c2
  have H' := aE H
  clear H
  go_enter Tryz.func56, Tryz.ntmps56
  go_wp2
  go_loopg [13] k (fun kq b8 w' => ∃ (d : Int), b8 = .int .i64 d ∧ Aside0 (xi.l0 kq l0 l0 (l0.length : Int) d = some r) ∧ Aside0 (kq ≤ k) ∧ Aside0 (Below w.heap.size w w'))
  case atStart => exact ⟨(0), rq, H', ⟨Nat.le_refl _⟩, ⟨bl⟩⟩
  case round =>
   clear H'
   obtain ⟨d, rfl, HA, a0, HB⟩ := hrel
   cases gk with
   | zero => exact absurd HA.out (by simp [xi.l0])
   | succ k1 =>
    have H := HA.out
    clear HA
    simp only [xi.l0] at H
    rcases iL H with H1 | H1 <;> clear H <;> obtain ⟨H, d0⟩ := H1
    ·by_cases c4 : 0 ≤ d
     ·rw [if_pos c4] at H
      have d1 := decide_eq_true c4
      clear c4
      by_cases c5 : d < (l0.length : Int)
      ·rw [if_pos c5] at H
       have d2 := decide_eq_true c5
       clear c5
       obtain ⟨a1, A6, H⟩ := oB H
       try dsimp only at H
       by_cases c7 : a1 = true
       ·subst c7
        rw [if_pos rfl] at H
        have H' := aE H
        clear H
        have x : 0 ≤ (d : Int) := dt
        have y : d < (l0.length : Int) := dt
        obtain ⟨L, D, q, s, t, u⟩ := xr B.out d x y
        cases D
        replace q := hcB HB.out q
        replace s := hcB HB.out s
        replace t := hcB HB.out t
        replace u := hcB HB.out u
        replace x := eq_true x
        replace y := eq_true y
        go_wp2_with (first | ((with_reducible refine gd 4 rfl ?_); refine bx 4 #[.int .i64 0, .int .i64 0, .int .i64 0, .int .i64 0] 105 rfl rfl ?_; intro z hg w8 hbox hb; have n_ := aC (bs hb) (aC hbox (aC (gz hg) (aE (gz hg)))); clear HB; obtain ⟨HB, j, M, O⟩ := n_; clear hb hbox hg; obtain ⟨b0, b1, b2, b3, b4, b5, b6, b7⟩ := xP j.out) | ((with_reducible refine gf 79 rfl ?_); refine gL (some 18) rfl rfl Tryz.func79 rfl #[.agg #[.int .i64 ((vk l0 d).f0), .int .i64 ((vk l0 d).f1), .int .i64 ((vk l0 d).f2), .int .i64 ((vk l0 d).f3)]] rfl ?_; (with_reducible refine (zF.calls ((vk l0 d).f0) ((vk l0 d).f1) ((vk l0 d).f2) ((vk l0 d).f3) true _ A6.out).mono ?_); rintro e d3 ⟨rfl, hb⟩; refine ⟨_, rfl, ?_⟩; have n_ := aC (vp (g := z) (o := .cells #[.int .i64 ((vk l0 d).f0), .int .i64 ((vk l0 d).f1), .int .i64 ((vk l0 d).f2), .int .i64 ((vk l0 d).f3)] 105 (0, 0)) (by (with_reducible repeat first | apply vm | apply vn | apply vl); refine vt (cs := #[.int .i64 ((vk l0 d).f0), .int .i64 ((vk l0 d).f1), .int .i64 ((vk l0 d).f2), .int .i64 0]) ?_ 3 _ rfl; (with_reducible repeat first | apply vm | apply vn | apply vl); refine vt (cs := #[.int .i64 ((vk l0 d).f0), .int .i64 ((vk l0 d).f1), .int .i64 0, .int .i64 0]) ?_ 2 _ rfl; (with_reducible repeat first | apply vm | apply vn | apply vl); refine vt (cs := #[.int .i64 ((vk l0 d).f0), .int .i64 0, .int .i64 0, .int .i64 0]) ?_ 1 _ rfl; (with_reducible repeat first | apply vm | apply vn | apply vl); refine vt (cs := #[.int .i64 0, .int .i64 0, .int .i64 0, .int .i64 0]) ?_ 0 _ rfl; (with_reducible repeat first | apply vm | apply vn | apply vl); exact j.out) hb) (aE (bs hb)); clear j HB; obtain ⟨j, HB⟩ := n_))
        go_roundg k1
        case measure => have := a0.out; omega
        case rel => exact ⟨(wrap64 (d + 1)), rq, H', ⟨by have := a0.out; omega⟩, ⟨bl⟩⟩
       ·replace c7 := Bool.eq_false_iff.mpr c7
        subst c7
        rw [if_neg Bool.false_ne_true] at H
        obtain rfl := Option.some.inj H
        have x : 0 ≤ (d : Int) := dt
        have y : d < (l0.length : Int) := dt
        obtain ⟨L, D, q, s, t, u⟩ := xr B.out d x y
        cases D
        replace q := hcB HB.out q
        replace s := hcB HB.out s
        replace t := hcB HB.out t
        replace u := hcB HB.out u
        replace x := eq_true x
        replace y := eq_true y
        go_wp2_with (first | ((with_reducible refine gd 4 rfl ?_); refine bx 4 #[.int .i64 0, .int .i64 0, .int .i64 0, .int .i64 0] 105 rfl rfl ?_; intro z hg d4 hbox hb; have n_ := aC (bs hb) (aC hbox (aC (gz hg) (aE (gz hg)))); clear HB; obtain ⟨HB, j, M, O⟩ := n_; clear hb hbox hg; obtain ⟨a2, a3, a4, a5, a6, a7, a8, a9⟩ := xP j.out) | ((with_reducible refine gf 79 rfl ?_); refine gL (some 18) rfl rfl Tryz.func79 rfl #[.agg #[.int .i64 ((vk l0 d).f0), .int .i64 ((vk l0 d).f1), .int .i64 ((vk l0 d).f2), .int .i64 ((vk l0 d).f3)]] rfl ?_; (with_reducible refine (zF.calls ((vk l0 d).f0) ((vk l0 d).f1) ((vk l0 d).f2) ((vk l0 d).f3) false _ A6.out).mono ?_); rintro e d5 ⟨rfl, hb⟩; refine ⟨_, rfl, ?_⟩; have n_ := aC (vp (g := z) (o := .cells #[.int .i64 ((vk l0 d).f0), .int .i64 ((vk l0 d).f1), .int .i64 ((vk l0 d).f2), .int .i64 ((vk l0 d).f3)] 105 (0, 0)) (by (with_reducible repeat first | apply vm | apply vn | apply vl); refine vt (cs := #[.int .i64 ((vk l0 d).f0), .int .i64 ((vk l0 d).f1), .int .i64 ((vk l0 d).f2), .int .i64 0]) ?_ 3 _ rfl; (with_reducible repeat first | apply vm | apply vn | apply vl); refine vt (cs := #[.int .i64 ((vk l0 d).f0), .int .i64 ((vk l0 d).f1), .int .i64 0, .int .i64 0]) ?_ 2 _ rfl; (with_reducible repeat first | apply vm | apply vn | apply vl); refine vt (cs := #[.int .i64 ((vk l0 d).f0), .int .i64 0, .int .i64 0, .int .i64 0]) ?_ 1 _ rfl; (with_reducible repeat first | apply vm | apply vn | apply vl); refine vt (cs := #[.int .i64 0, .int .i64 0, .int .i64 0, .int .i64 0]) ?_ 0 _ rfl; (with_reducible repeat first | apply vm | apply vn | apply vl); exact j.out) hb) (aE (bs hb)); clear j HB; obtain ⟨j, HB⟩ := n_))
        go_ret
        exact ⟨re, bl⟩
      ·rw [if_neg c5] at H
       exact nB H
     ·rw [if_neg c4] at H
      exact nB H
    ·obtain ⟨⟨E, G, I⟩, T, H⟩ := oB H
     try dsimp only at H
     rcases iL H with H1 | H1 <;> clear H <;> obtain ⟨H, b9⟩ := H1
     ·rcases iL H with H1 | H1 <;> clear H <;> obtain ⟨H, c1⟩ := H1
      ·obtain rfl := Option.some.inj H
       go_wp2_with (first | ((with_reducible refine gf 80 rfl ?_); refine gL (some 23) rfl rfl Tryz.func80 rfl #[.slice A0 l0.length c0] rfl ?_; (with_reducible refine (wV.calls k1 _ _ l0 E G I _ ?side1 ?side2 T.out).mono ?_); (case side1 => exact cU (Kd.wz B.out HB.out)); (case side2 => exact J.out); rintro e d6 ⟨rfl, hb⟩; refine ⟨_, rfl, ?_⟩; have n_ := aE (bs hb); clear HB; have HB := n_; clear n_))
       go_ret
       exact ⟨re, bl⟩
      ·obtain rfl := Option.some.inj H
       go_wp2_with (first | ((with_reducible refine gf 80 rfl ?_); refine gL (some 23) rfl rfl Tryz.func80 rfl #[.slice A0 l0.length c0] rfl ?_; (with_reducible refine (wV.calls k1 _ _ l0 E G I _ ?side1 ?side2 T.out).mono ?_); (case side1 => exact cU (Kd.wz B.out HB.out)); (case side2 => exact J.out); rintro e d7 ⟨rfl, hb⟩; refine ⟨_, rfl, ?_⟩; have n_ := aE (bs hb); clear HB; have HB := n_; clear n_))
       go_ret
       exact ⟨re, bl⟩
     ·obtain rfl := Option.some.inj H
      go_wp2_with (first | ((with_reducible refine gf 80 rfl ?_); refine gL (some 23) rfl rfl Tryz.func80 rfl #[.slice A0 l0.length c0] rfl ?_; (with_reducible refine (wV.calls k1 _ _ l0 E G I _ ?side1 ?side2 T.out).mono ?_); (case side1 => exact cU (Kd.wz B.out HB.out)); (case side2 => exact J.out); rintro e d8 ⟨rfl, hb⟩; refine ⟨_, rfl, ?_⟩; have n_ := aE (bs hb); clear HB; have HB := n_; clear n_))
      go_ret
      exact ⟨re, bl⟩
end Go.Proofs.YtknclbodinfbeaaGreatDoor.PRunsBack
