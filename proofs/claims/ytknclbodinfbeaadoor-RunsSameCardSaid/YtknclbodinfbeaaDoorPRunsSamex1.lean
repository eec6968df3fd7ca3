-- printed (wip/tools/myprint.py)
import Derived.Test.YtknclbodinfbeaaDoorPRunsSamex0
namespace Go.Proofs.YtknclbodinfbeaaDoor.PRunsSame
open Go.RowKit Go.Proofs.YtknclbodinfbeaaDoorW.PrintWords Go.Proofs.YtknclbodinfbeaaDoorW.PrintLast Go.Proofs.YtknclbodinfbeaaDoorW.PrintMore
attribute [local go_sem] yf yc yD yE xV xU ye yh
set_option linter.unusedVariables false
set_option linter.unusedSimpArgs false
def wW.l0 : Nat → List (xc) → List (xv) → Int → Int → Option ((List (xc)))
 | 0, _, _, _, _ => none
 | k + 1, x3, x6, x7, x8 => if x8 < x7 then (if 0 ≤ x8 then (if x8 < (x6.length : Int) then (if x3.length < 4398046511104 then (wW.l0 k (x3 ++ [(⟨(xz x6 x8).f0, (xz x6 x8).f1, (xz x6 x8).f2, (xz x6 x8).f3⟩ : xc)]) x6 x7 (wrap64 (x8 + 1))) else (none)) else (none)) else (none)) else (some x3)
def wW.f (k : Nat) (l0 : List (xv)) : Option ((List (xc))) := wW.l0 k ([] : List (xc)) l0 (l0.length : Int) 0
theorem wW.wj : ∀ k, (∀ y0 y1 y2 y3, vP (wW.l0 k y0 y1 y2 y3) (wW.l0 (k + 1) y0 y1 y2 y3))
 | 0 => fun _ _ _ _ r h => by simp [wW.l0] at h
 | k + 1 => by
  have ih0 := wW.wj k
  ·intro y0 y1 y2 y3
   unfold wW.l0
   repeat' first
   | (with_reducible exact ih0 _ _ _ _)
   | (with_reducible first | exact vP.refl _ | exact vP.none _ | apply vP.ite | refine vP.bind ?_ fun _ => ?_)
theorem wW.mono : ∀ a0 k, vP (wW.f k a0) (wW.f (k + 1) a0) := by
 intro a0 k
 have ih0 := wW.wj k
 unfold wW.f
 repeat' first
   | (with_reducible exact ih0 _ _ _ _)
   | (with_reducible first | exact vP.refl _ | exact vP.none _ | apply vP.ite | refine vP.bind ?_ fun _ => ?_)
set_option maxHeartbeats 8000000 in
set_option maxRecDepth 100000 in
theorem wW.calls (k : Nat) (A0 : Option Addr) (c0 : Nat) (l0 : List (xv)) (r : List (xc)) (w : World) (hr0 : Kd.C zQ w A0 l0.length l0) (hc0 : l0.length ≤ c0) (h : wW.f k l0 = some r) :
  Calls Tryd.prog 85 #[.slice A0 l0.length c0] w fun e w' => ∃ v0_ : Value, e = .returned (v0_) ∧ Kd.R zh 87 w' w.heap.size (fun _ => True) v0_ r ∧ Below w.heap.size w w' := by
 have hu122 := Tryd.underlying122
 have hu87 := Tryd.underlying87
 have HR0 := Aside0.mk hr0
 have HC0 := Aside0.mk hc0
 clear hr0 hc0
 have HB := Aside0.mk (Below.refl w.heap.size w)
 have H : (wW.l0 k ([] : List (xc)) l0 (l0.length : Int) 0) = some r := h
 clear h
 have H' := Aside0.mk H
 clear H
 go_enter Tryd.func85, Tryd.ntmps85
 go_wp2
 go_loopg [3, 8] k (fun kq v3 v8 w' => ∃ (x3_1 : List (xc)) (x8_1 : Int), v8 = .int .i64 x8_1 ∧ Aside0 (wW.l0 kq x3_1 l0 (l0.length : Int) x8_1 = some r) ∧ Aside0 (kq ≤ k) ∧ Aside0 (Kd.R zh 87 w' w.heap.size (fun _ => True) v3 x3_1) ∧ Aside0 (Below w.heap.size w w'))
 case atStart => exact ⟨(([] : List (xc))), (0), rq, H', ⟨Nat.le_refl _⟩, ⟨by first | exact Kd.yC _ _ _ _ _ | exact Kd.za _ _ _ _ _ | exact Kd.y9 _ _ _ _ _ | exact Kd.zb _ _ _ _ _ | exact Kd.yZ _ _ _ _ _⟩, ⟨bl⟩⟩
 case round =>
  clear H'
  obtain ⟨x3_1, x8_1, rfl, HA, HK1, HO_3, HB⟩ := hrel
  cases gk with
  | zero => exact absurd HA.out (by simp [wW.l0])
  | succ k1 =>
   have H := HA.out
   clear HA
   simp only [wW.l0] at H
   rcases iL H with H1 | H1 <;> clear H <;> obtain ⟨H, c2b0⟩ := H1
   ·by_cases c3 : 0 ≤ x8_1
    ·rw [if_pos c3] at H
     have c3b0 := decide_eq_true c3
     clear c3
     by_cases c4 : x8_1 < (l0.length : Int)
     ·rw [if_pos c4] at H
      have c4b0 := decide_eq_true c4
      clear c4
      by_cases c5 : x3_1.length < 4398046511104
      ·rw [if_pos c5] at H
       have LMc5 := Aside0.mk c5
       clear c5
       obtain ⟨y103, hy_⟩ : ∃ y_ : List (xc), y_ = (x3_1 ++ [(⟨(xz l0 x8_1).f0, (xz l0 x8_1).f1, (xz l0 x8_1).f2, (xz l0 x8_1).f3⟩ : xc)]) := ⟨_, rfl⟩
       replace H : (wW.l0 k1 y103 l0 (l0.length : Int) (wrap64 (x8_1 + 1))) = some r := rh
       have Ny103 := aE hy_
       clear hy_
       have H' := Aside0.mk H
       clear H
       have p101 : 0 ≤ (x8_1 : Int) := dt
       have q101 : x8_1 < (l0.length : Int) := dt
       obtain ⟨ad101, e101, hx101_0, hx101_1, hx101_2, hx101_3⟩ := at_T122 HR0.out x8_1 p101 q101
       cases e101
       replace hx101_0 := hcB HB.out hx101_0
       replace hx101_1 := hcB HB.out hx101_1
       replace hx101_2 := hcB HB.out hx101_2
       replace hx101_3 := hcB HB.out hx101_3
       replace p101 := eq_true p101
       replace q101 := eq_true q101
       go_wp2_with (first | ((with_reducible refine gd 5 rfl ?_); refine bx 5 #[.int .i64 0, .int .i64 0, .int .i64 0, .int .i64 0] 122 rfl rfl ?_; intro gb102 hg w6 hbox hb; have n_ := aC (Kd.vT (rU HO_3.out) hb) (aC (bs hb) (aC hbox (aC (gz hg) (aE (gz hg))))); clear HO_3 HB; obtain ⟨HO_3, HB, BK102, GW102, GE102⟩ := n_; clear hb hbox hg; obtain ⟨hcz7_0, hcz7_1, hcz7_2, hcz7_3, hfz7_0, hfz7_1, hfz7_2, hfz7_3⟩ := xC BK102.out) | ((with_reducible refine xb (b := .append) (xs := #[.tmp 12, .tmp 22]) rfl ?_); at_builtin; refine Kd.zf zh (w0 := w) w.heap.size rfl (.tmp 12) (.tmp 22) 61 87 (.agg #[(.int .i64 0), (.int .i64 0), (.int .i64 0), (.int .i64 0)]) 32 rfl Tryd.underlying61 info87 rfl (by decide) (by omega) u3 x3_1 (⟨(xz l0 x8_1).f0, (xz l0 x8_1).f1, (xz l0 x8_1).f2, (xz l0 x8_1).f3⟩ : xc) [.int .i64 ((xz l0 x8_1).f0), .int .i64 ((xz l0 x8_1).f1), .int .i64 ((xz l0 x8_1).f2), .int .i64 ((xz l0 x8_1).f3)] (fun _ => True) (fun _ => False) rfl (by first | (go_simp; done) | (go_simp; rfl)) ?aP (fun _ hk => hk.elim) ?aF ?aO ?aB ?aS ?aL ?_; (case aP => exact xH _ _ _ (⟨(xz l0 x8_1).f0, (xz l0 x8_1).f1, (xz l0 x8_1).f2, (xz l0 x8_1).f3⟩ : xc)); (case aB => exact bl); (case aF => exact (fun _ _ => trivial)); (case aO => exact (rU (Kd.vY (Kd.wI (p := ⟨gb102, 3, none⟩) (Kd.wI (p := ⟨gb102, 2, none⟩) (Kd.wI (p := ⟨gb102, 1, none⟩) (Kd.wI (p := ⟨gb102, 0, none⟩) (Kd.xu HO_3.out BK102.out (by decide)) (fun _ hk => hk.2) (.int .i64 ((xz l0 x8_1).f0))) (fun _ hk => hk.2) (.int .i64 ((xz l0 x8_1).f1))) (fun _ hk => hk.2) (.int .i64 ((xz l0 x8_1).f2))) (fun _ hk => hk.2) (.int .i64 ((xz l0 x8_1).f3))) (fun _ hk => trivial)))); (case aS => exact bz); (case aL => have := LMc5.out; omega); intro v104 w8 ho hb hg hat; rw [← Ny103.out] at ho; have n_ := aC (xx (g := gb102) (o := .cells #[.int .i64 ((xz l0 x8_1).f0), .int .i64 ((xz l0 x8_1).f1), .int .i64 ((xz l0 x8_1).f2), .int .i64 ((xz l0 x8_1).f3)] 122 (0, 0)) (by (with_reducible repeat first | apply vl | apply vn | apply vm); refine vv (cs := #[.int .i64 ((xz l0 x8_1).f0), .int .i64 ((xz l0 x8_1).f1), .int .i64 ((xz l0 x8_1).f2), .int .i64 0]) ?_ 3 _ rfl; (with_reducible repeat first | apply vl | apply vn | apply vm); refine vv (cs := #[.int .i64 ((xz l0 x8_1).f0), .int .i64 ((xz l0 x8_1).f1), .int .i64 0, .int .i64 0]) ?_ 2 _ rfl; (with_reducible repeat first | apply vl | apply vn | apply vm); refine vv (cs := #[.int .i64 ((xz l0 x8_1).f0), .int .i64 0, .int .i64 0, .int .i64 0]) ?_ 1 _ rfl; (with_reducible repeat first | apply vl | apply vn | apply vm); refine vv (cs := #[.int .i64 0, .int .i64 0, .int .i64 0, .int .i64 0]) ?_ 0 _ rfl; (with_reducible repeat first | apply vl | apply vn | apply vm); exact BK102.out) hg (Kd.jh HO_3.out BK102.out (by decide))) (aC hb (aE ho)); clear BK102 HB HO_3; obtain ⟨BK102, HB, HO105⟩ := n_; clear ho hb hg hat))
       go_roundg k1
       case measure => have := HK1.out; omega
       case rel => exact ⟨(y103), (wrap64 (x8_1 + 1)), rq, H', ⟨by have := HK1.out; omega⟩, ⟨rU HO105.out⟩, ⟨bl⟩⟩
      ·rw [if_neg c5] at H
       exact absurd H (by simp)
     ·rw [if_neg c4] at H
      exact absurd H (by simp)
    ·rw [if_neg c3] at H
     exact absurd H (by simp)
   ·obtain rfl := Option.some.inj H
    go_wp2
    go_ret
    exact ⟨_, re, rU HO_3.out, bl⟩
def xI.f (k : Nat) (a0 : Int) : Option ((List (xc)) × Int) := if a0 = 0 then ((wW.f k (([(⟨1, 0, 0, 0⟩ : xv), (⟨2, 1, 1, 0⟩ : xv), (⟨3, 3, 3, 0⟩ : xv), (⟨4, 5, 11, 0⟩ : xv), (⟨5, 8, 43, 0⟩ : xv), (⟨5, 20, 299, 0⟩ : xv)] : List (xv)))).bind fun t109 => (some (t109, 0))) else (if a0 = 1 then ((wW.f k (([(⟨1, 2, 0, 0⟩ : xv), (⟨2, 4, 4, 0⟩ : xv), (⟨3, 8, 20, 0⟩ : xv), (⟨4, 20, (-1), 1⟩ : xv), (⟨4, 0, 0, 2⟩ : xv)] : List (xv)))).bind fun t115 => (some (t115, 0))) else (if a0 = 2 then ((wW.f k (([(⟨1, 0, 0, 0⟩ : xv), (⟨3, 2, 1, 0⟩ : xv), (⟨3, 2, (-1), 1⟩ : xv), (⟨3, 20, 5, 0⟩ : xv), (⟨3, 20, (-5), 1⟩ : xv)] : List (xv)))).bind fun t121 => (some (t121, 0))) else (some (([] : List (xc)), 2))))
theorem xI.mono : ∀ a0 k, vP (xI.f k a0) (xI.f (k + 1) a0) := by
 intro a0 k
 unfold xI.f
 repeat' first
   | (with_reducible exact wW.mono _ _)
   | (with_reducible first | exact vP.refl _ | exact vP.none _ | apply vP.ite | refine vP.bind ?_ fun _ => ?_)
set_option maxHeartbeats 8000000 in
set_option maxRecDepth 100000 in
theorem xI.calls (k : Nat) (a0 : Int) (r1 : List (xc)) (r2 : Int) (w : World) (h : xI.f k a0 = some (r1, r2)) :
  Calls Tryd.prog 57 #[.int .i64 a0] w fun e w' => ∃ v0_ : Value, e = .returned (.tuple #[v0_, .int .i64 r2]) ∧ Kd.R zh 87 w' w.heap.size (fun _ => True) v0_ r1 ∧ Below w.heap.size w w' := by
 have hu122 := Tryd.underlying122
 have HB := Aside0.mk (Below.refl w.heap.size w)
 have H := h
 unfold xI.f at H
 clear h
 rcases iE H with H1 | H1 <;> clear H <;> obtain ⟨H, c2b0, c2b1, c2⟩ := H1
 ·obtain ⟨y106, hy_⟩ : ∃ y_ : List (xv), y_ = (([(⟨1, 0, 0, 0⟩ : xv), (⟨2, 1, 1, 0⟩ : xv), (⟨3, 3, 3, 0⟩ : xv), (⟨4, 5, 11, 0⟩ : xv), (⟨5, 8, 43, 0⟩ : xv), (⟨5, 20, 299, 0⟩ : xv)] : List (xv))) := ⟨_, rfl⟩
  replace H : ((wW.f k y106).bind fun t109 => (some (t109, 0))) = some (r1, r2) := rh
  have Ny106 := aE hy_
  clear hy_
  obtain ⟨t109, A3, H⟩ := oB H
  try dsimp only at H
  simp only [Option.some.injEq, Prod.mk.injEq] at H
  obtain ⟨rfl, rfl⟩ := H
  go_enter Tryd.func57, Tryd.ntmps57
  go_wp2_with (first | ((with_reducible refine gd 13 rfl ?_); refine Kd.zV zQ _ 122 ?hg (N := 13) ?hd (xs := ([(⟨1, 0, 0, 0⟩ : xv), (⟨2, 1, 1, 0⟩ : xv), (⟨3, 3, 3, 0⟩ : xv), (⟨4, 5, 11, 0⟩ : xv), (⟨5, 8, 43, 0⟩ : xv), (⟨5, 20, 299, 0⟩ : xv)] : List (xv))) (inner := [.int .i64 1, .int .i64 0, .int .i64 0, .int .i64 0, .int .i64 2, .int .i64 1, .int .i64 1, .int .i64 0, .int .i64 3, .int .i64 3, .int .i64 3, .int .i64 0, .int .i64 4, .int .i64 5, .int .i64 11, .int .i64 0, .int .i64 5, .int .i64 8, .int .i64 43, .int .i64 0, .int .i64 5, .int .i64 20, .int .i64 299, .int .i64 0]) (ok := fun _ => True) (okp := fun _ => True) ?hr ?hp (fun _ hk => hk) trivial (Below.refl _ _) (Nat.le_refl _) (by simp) ?_; (case hd => rfl); (case hg => rfl); (case hr => first | (go_simp; done) | (go_simp; rfl)); (case hp => exact (wX.c4 (show Kd.M zQ _ _ _ (⟨1, 0, 0, 0⟩ : xv) [.int .i64 1, .int .i64 0, .int .i64 0, .int .i64 0] from (yG _ _ _ (⟨1, 0, 0, 0⟩ : xv) )) (wX.c4 (show Kd.M zQ _ _ _ (⟨2, 1, 1, 0⟩ : xv) [.int .i64 2, .int .i64 1, .int .i64 1, .int .i64 0] from (yG _ _ _ (⟨2, 1, 1, 0⟩ : xv) )) (wX.c4 (show Kd.M zQ _ _ _ (⟨3, 3, 3, 0⟩ : xv) [.int .i64 3, .int .i64 3, .int .i64 3, .int .i64 0] from (yG _ _ _ (⟨3, 3, 3, 0⟩ : xv) )) (wX.c4 (show Kd.M zQ _ _ _ (⟨4, 5, 11, 0⟩ : xv) [.int .i64 4, .int .i64 5, .int .i64 11, .int .i64 0] from (yG _ _ _ (⟨4, 5, 11, 0⟩ : xv) )) (wX.c4 (show Kd.M zQ _ _ _ (⟨5, 8, 43, 0⟩ : xv) [.int .i64 5, .int .i64 8, .int .i64 43, .int .i64 0] from (yG _ _ _ (⟨5, 8, 43, 0⟩ : xv) )) (wX.c4 (show Kd.M zQ _ _ _ (⟨5, 20, 299, 0⟩ : xv) [.int .i64 5, .int .i64 20, .int .i64 299, .int .i64 0] from (yG _ _ _ (⟨5, 20, 299, 0⟩ : xv) )) (wX.none _ _)))))))); intro v107 w4 ho5 hb hg_ hnew_; clear hg_ hnew_; (first | rw [← Ny106.out] at ho5 | (simp only [Int.reduceToNat] at ho5; rw [← Ny106.out] at ho5)); have n_ := aC (Kd.vX ho5 bz) (aE (bs hb)); clear HB; obtain ⟨HO108, HB⟩ := n_; clear hb ho5; obtain ⟨Ao6, co6, eo6⟩ := Kd.wq HO108.out; subst eo6) | (refine gF 85 14 Tryd.func85 #[.slice Ao6 y106.length co6] rfl rfl ?_; (with_reducible refine (wW.calls k _ _ y106 t109 _ ?side1 ?side2 A3.out).mono ?_); (case side1 => exact cU (Kd.R_reads' HO108.out).2.2); (case side2 => exact (Kd.R_reads' HO108.out).2.1); rintro e w7 ⟨v110, rfl, ho0, hb⟩; refine ⟨_, rfl, ?_⟩; have n_ := aC (Kd.vT (rU HO108.out) hb) (aC (Kd.vX ho0 bz) (aE (bs hb))); clear HO108 HB; obtain ⟨HO108, HO111, HB⟩ := n_))
  go_ret2
  exact ⟨_, re, rU HO111.out, bl⟩
 ·rcases iE H with H1 | H1 <;> clear H <;> obtain ⟨H, c8b0, c8b1, c8⟩ := H1
  ·obtain ⟨y112, hy_⟩ : ∃ y_ : List (xv), y_ = (([(⟨1, 2, 0, 0⟩ : xv), (⟨2, 4, 4, 0⟩ : xv), (⟨3, 8, 20, 0⟩ : xv), (⟨4, 20, (-1), 1⟩ : xv), (⟨4, 0, 0, 2⟩ : xv)] : List (xv))) := ⟨_, rfl⟩
   replace H : ((wW.f k y112).bind fun t115 => (some (t115, 0))) = some (r1, r2) := rh
   have Ny112 := aE hy_
   clear hy_
   obtain ⟨t115, A9, H⟩ := oB H
   try dsimp only at H
   simp only [Option.some.injEq, Prod.mk.injEq] at H
   obtain ⟨rfl, rfl⟩ := H
   go_enter Tryd.func57, Tryd.ntmps57
   go_wp2_with (first | ((with_reducible refine gd 22 rfl ?_); refine Kd.zV zQ _ 122 ?hg (N := 22) ?hd (xs := ([(⟨1, 2, 0, 0⟩ : xv), (⟨2, 4, 4, 0⟩ : xv), (⟨3, 8, 20, 0⟩ : xv), (⟨4, 20, (-1), 1⟩ : xv), (⟨4, 0, 0, 2⟩ : xv)] : List (xv))) (inner := [.int .i64 1, .int .i64 2, .int .i64 0, .int .i64 0, .int .i64 2, .int .i64 4, .int .i64 4, .int .i64 0, .int .i64 3, .int .i64 8, .int .i64 20, .int .i64 0, .int .i64 4, .int .i64 20, .int .i64 (-1), .int .i64 1, .int .i64 4, .int .i64 0, .int .i64 0, .int .i64 2]) (ok := fun _ => True) (okp := fun _ => True) ?hr ?hp (fun _ hk => hk) trivial (Below.refl _ _) (Nat.le_refl _) (by simp) ?_; (case hd => rfl); (case hg => rfl); (case hr => first | (go_simp; done) | (go_simp; rfl)); (case hp => exact (wX.c4 (show Kd.M zQ _ _ _ (⟨1, 2, 0, 0⟩ : xv) [.int .i64 1, .int .i64 2, .int .i64 0, .int .i64 0] from (yG _ _ _ (⟨1, 2, 0, 0⟩ : xv) )) (wX.c4 (show Kd.M zQ _ _ _ (⟨2, 4, 4, 0⟩ : xv) [.int .i64 2, .int .i64 4, .int .i64 4, .int .i64 0] from (yG _ _ _ (⟨2, 4, 4, 0⟩ : xv) )) (wX.c4 (show Kd.M zQ _ _ _ (⟨3, 8, 20, 0⟩ : xv) [.int .i64 3, .int .i64 8, .int .i64 20, .int .i64 0] from (yG _ _ _ (⟨3, 8, 20, 0⟩ : xv) )) (wX.c4 (show Kd.M zQ _ _ _ (⟨4, 20, (-1), 1⟩ : xv) [.int .i64 4, .int .i64 20, .int .i64 (-1), .int .i64 1] from (yG _ _ _ (⟨4, 20, (-1), 1⟩ : xv) )) (wX.c4 (show Kd.M zQ _ _ _ (⟨4, 0, 0, 2⟩ : xv) [.int .i64 4, .int .i64 0, .int .i64 0, .int .i64 2] from (yG _ _ _ (⟨4, 0, 0, 2⟩ : xv) )) (wX.none _ _))))))); intro v113 w10 ho11 hb hg_ hnew_; clear hg_ hnew_; (first | rw [← Ny112.out] at ho11 | (simp only [Int.reduceToNat] at ho11; rw [← Ny112.out] at ho11)); have n_ := aC (Kd.vX ho11 bz) (aE (bs hb)); clear HB; obtain ⟨HO114, HB⟩ := n_; clear hb ho11; obtain ⟨Ao12, co12, eo12⟩ := Kd.wq HO114.out; subst eo12) | (refine gF 85 23 Tryd.func85 #[.slice Ao12 y112.length co12] rfl rfl ?_; (with_reducible refine (wW.calls k _ _ y112 t115 _ ?side1 ?side2 A9.out).mono ?_); (case side1 => exact cU (Kd.R_reads' HO114.out).2.2); (case side2 => exact (Kd.R_reads' HO114.out).2.1); rintro e w13 ⟨v116, rfl, ho0, hb⟩; refine ⟨_, rfl, ?_⟩; have n_ := aC (Kd.vT (rU HO114.out) hb) (aC (Kd.vX ho0 bz) (aE (bs hb))); clear HO114 HB; obtain ⟨HO114, HO117, HB⟩ := n_))
   go_ret2
   exact ⟨_, re, rU HO117.out, bl⟩
  ·rcases iE H with H1 | H1 <;> clear H <;> obtain ⟨H, c14b0, c14b1, c14⟩ := H1
   ·obtain ⟨y118, hy_⟩ : ∃ y_ : List (xv), y_ = (([(⟨1, 0, 0, 0⟩ : xv), (⟨3, 2, 1, 0⟩ : xv), (⟨3, 2, (-1), 1⟩ : xv), (⟨3, 20, 5, 0⟩ : xv), (⟨3, 20, (-5), 1⟩ : xv)] : List (xv))) := ⟨_, rfl⟩
    replace H : ((wW.f k y118).bind fun t121 => (some (t121, 0))) = some (r1, r2) := rh
    have Ny118 := aE hy_
    clear hy_
    obtain ⟨t121, A15, H⟩ := oB H
    try dsimp only at H
    simp only [Option.some.injEq, Prod.mk.injEq] at H
    obtain ⟨rfl, rfl⟩ := H
    go_enter Tryd.func57, Tryd.ntmps57
    go_wp2_with (first | ((with_reducible refine gd 31 rfl ?_); refine Kd.zV zQ _ 122 ?hg (N := 31) ?hd (xs := ([(⟨1, 0, 0, 0⟩ : xv), (⟨3, 2, 1, 0⟩ : xv), (⟨3, 2, (-1), 1⟩ : xv), (⟨3, 20, 5, 0⟩ : xv), (⟨3, 20, (-5), 1⟩ : xv)] : List (xv))) (inner := [.int .i64 1, .int .i64 0, .int .i64 0, .int .i64 0, .int .i64 3, .int .i64 2, .int .i64 1, .int .i64 0, .int .i64 3, .int .i64 2, .int .i64 (-1), .int .i64 1, .int .i64 3, .int .i64 20, .int .i64 5, .int .i64 0, .int .i64 3, .int .i64 20, .int .i64 (-5), .int .i64 1]) (ok := fun _ => True) (okp := fun _ => True) ?hr ?hp (fun _ hk => hk) trivial (Below.refl _ _) (Nat.le_refl _) (by simp) ?_; (case hd => rfl); (case hg => rfl); (case hr => first | (go_simp; done) | (go_simp; rfl)); (case hp => exact (wX.c4 (show Kd.M zQ _ _ _ (⟨1, 0, 0, 0⟩ : xv) [.int .i64 1, .int .i64 0, .int .i64 0, .int .i64 0] from (yG _ _ _ (⟨1, 0, 0, 0⟩ : xv) )) (wX.c4 (show Kd.M zQ _ _ _ (⟨3, 2, 1, 0⟩ : xv) [.int .i64 3, .int .i64 2, .int .i64 1, .int .i64 0] from (yG _ _ _ (⟨3, 2, 1, 0⟩ : xv) )) (wX.c4 (show Kd.M zQ _ _ _ (⟨3, 2, (-1), 1⟩ : xv) [.int .i64 3, .int .i64 2, .int .i64 (-1), .int .i64 1] from (yG _ _ _ (⟨3, 2, (-1), 1⟩ : xv) )) (wX.c4 (show Kd.M zQ _ _ _ (⟨3, 20, 5, 0⟩ : xv) [.int .i64 3, .int .i64 20, .int .i64 5, .int .i64 0] from (yG _ _ _ (⟨3, 20, 5, 0⟩ : xv) )) (wX.c4 (show Kd.M zQ _ _ _ (⟨3, 20, (-5), 1⟩ : xv) [.int .i64 3, .int .i64 20, .int .i64 (-5), .int .i64 1] from (yG _ _ _ (⟨3, 20, (-5), 1⟩ : xv) )) (wX.none _ _))))))); intro v119 w16 ho17 hb hg_ hnew_; clear hg_ hnew_; (first | rw [← Ny118.out] at ho17 | (simp only [Int.reduceToNat] at ho17; rw [← Ny118.out] at ho17)); have n_ := aC (Kd.vX ho17 bz) (aE (bs hb)); clear HB; obtain ⟨HO120, HB⟩ := n_; clear hb ho17; obtain ⟨Ao18, co18, eo18⟩ := Kd.wq HO120.out; subst eo18) | (refine gF 85 32 Tryd.func85 #[.slice Ao18 y118.length co18] rfl rfl ?_; (with_reducible refine (wW.calls k _ _ y118 t121 _ ?side1 ?side2 A15.out).mono ?_); (case side1 => exact cU (Kd.R_reads' HO120.out).2.2); (case side2 => exact (Kd.R_reads' HO120.out).2.1); rintro e w19 ⟨v122, rfl, ho0, hb⟩; refine ⟨_, rfl, ?_⟩; have n_ := aC (Kd.vT (rU HO120.out) hb) (aC (Kd.vX ho0 bz) (aE (bs hb))); clear HO120 HB; obtain ⟨HO120, HO123, HB⟩ := n_))
    go_ret2
    exact ⟨_, re, rU HO123.out, bl⟩
   ·simp only [Option.some.injEq, Prod.mk.injEq] at H
    obtain ⟨rfl, rfl⟩ := H
    go_enter Tryd.func57, Tryd.ntmps57
    go_wp2
    go_ret2
    exact ⟨_, re, by first | exact Kd.yC _ _ _ _ _ | exact Kd.za _ _ _ _ _ | exact Kd.y9 _ _ _ _ _ | exact Kd.zb _ _ _ _ _ | exact Kd.yZ _ _ _ _ _, bl⟩
def zg.f (a0_0 : Int) (a0_1 : Int) (a0_2 : Int) (a0_3 : Int) : Option (Bool) := if a0_0 < 0 then (some false) else (if a0_0 > 15 then (some false) else (if a0_1 < 0 then (some false) else (if a0_1 > 20 then (some false) else (if a0_2 < (-1048576) then (some false) else (if a0_2 > 1048576 then (some false) else (if a0_3 < 0 then (some false) else (if a0_3 > 2 then (some false) else (if a0_3 = 2 then (if a0_1 = 0 then (some (a0_2 == 0)) else (some false)) else (some true)))))))))
set_option maxHeartbeats 8000000 in
set_option maxRecDepth 100000 in
theorem zg.calls (a0_0 : Int) (a0_1 : Int) (a0_2 : Int) (a0_3 : Int) (r : Bool) (w : World) (h : zg.f a0_0 a0_1 a0_2 a0_3 = some r) :
  Calls Tryd.prog 105 #[.agg #[.int .i64 a0_0, .int .i64 a0_1, .int .i64 a0_2, .int .i64 a0_3]] w fun e w' => e = .returned (.bool r) ∧ Below w.heap.size w w' := by
 have hu87 := Tryd.underlying87
 have HB := Aside0.mk (Below.refl w.heap.size w)
 have H := h
 unfold zg.f at H
 clear h
 rcases iL H with H1 | H1 <;> clear H <;> obtain ⟨H, c2b0⟩ := H1
 ·obtain rfl := Option.some.inj H
  go_enter Tryd.func105, Tryd.ntmps105
  go_wp2_with (first | ((with_reducible refine gd 1 rfl ?_); refine bx 1 #[.int .i64 a0_0, .int .i64 a0_1, .int .i64 a0_2, .int .i64 a0_3] 87 rfl rfl ?_; intro gb124 hg w3 hbox hb; have n_ := aC (bs hb) (aC hbox (aC (gz hg) (aE (gz hg)))); clear HB; obtain ⟨HB, BK124, GW124, GE124⟩ := n_; clear hb hbox hg; obtain ⟨hcz4_0, hcz4_1, hcz4_2, hcz4_3, hfz4_0, hfz4_1, hfz4_2, hfz4_3⟩ := xC BK124.out))
  go_ret
  exact ⟨re, bl⟩
 ·rcases iL H with H1 | H1 <;> clear H <;> obtain ⟨H, c5b0⟩ := H1
  ·obtain rfl := Option.some.inj H
   go_enter Tryd.func105, Tryd.ntmps105
   go_wp2_with (first | ((with_reducible refine gd 1 rfl ?_); refine bx 1 #[.int .i64 a0_0, .int .i64 a0_1, .int .i64 a0_2, .int .i64 a0_3] 87 rfl rfl ?_; intro gb124 hg w6 hbox hb; have n_ := aC (bs hb) (aC hbox (aC (gz hg) (aE (gz hg)))); clear HB; obtain ⟨HB, BK124, GW124, GE124⟩ := n_; clear hb hbox hg; obtain ⟨hcz7_0, hcz7_1, hcz7_2, hcz7_3, hfz7_0, hfz7_1, hfz7_2, hfz7_3⟩ := xC BK124.out))
   go_ret
   exact ⟨re, bl⟩
  ·rcases iL H with H1 | H1 <;> clear H <;> obtain ⟨H, c8b0⟩ := H1
   ·obtain rfl := Option.some.inj H
    go_enter Tryd.func105, Tryd.ntmps105
    go_wp2_with (first | ((with_reducible refine gd 1 rfl ?_); refine bx 1 #[.int .i64 a0_0, .int .i64 a0_1, .int .i64 a0_2, .int .i64 a0_3] 87 rfl rfl ?_; intro gb124 hg w9 hbox hb; have n_ := aC (bs hb) (aC hbox (aC (gz hg) (aE (gz hg)))); clear HB; obtain ⟨HB, BK124, GW124, GE124⟩ := n_; clear hb hbox hg; obtain ⟨hcz10_0, hcz10_1, hcz10_2, hcz10_3, hfz10_0, hfz10_1, hfz10_2, hfz10_3⟩ := xC BK124.out))
    go_ret
    exact ⟨re, bl⟩
   ·rcases iL H with H1 | H1 <;> clear H <;> obtain ⟨H, c11b0⟩ := H1
    ·obtain rfl := Option.some.inj H
     go_enter Tryd.func105, Tryd.ntmps105
     go_wp2_with (first | ((with_reducible refine gd 1 rfl ?_); refine bx 1 #[.int .i64 a0_0, .int .i64 a0_1, .int .i64 a0_2, .int .i64 a0_3] 87 rfl rfl ?_; intro gb124 hg w12 hbox hb; have n_ := aC (bs hb) (aC hbox (aC (gz hg) (aE (gz hg)))); clear HB; obtain ⟨HB, BK124, GW124, GE124⟩ := n_; clear hb hbox hg; obtain ⟨hcz13_0, hcz13_1, hcz13_2, hcz13_3, hfz13_0, hfz13_1, hfz13_2, hfz13_3⟩ := xC BK124.out))
     go_ret
     exact ⟨re, bl⟩
    ·rcases iL H with H1 | H1 <;> clear H <;> obtain ⟨H, c14b0⟩ := H1
     ·obtain rfl := Option.some.inj H
      go_enter Tryd.func105, Tryd.ntmps105
      go_wp2_with (first | ((with_reducible refine gd 1 rfl ?_); refine bx 1 #[.int .i64 a0_0, .int .i64 a0_1, .int .i64 a0_2, .int .i64 a0_3] 87 rfl rfl ?_; intro gb124 hg w15 hbox hb; have n_ := aC (bs hb) (aC hbox (aC (gz hg) (aE (gz hg)))); clear HB; obtain ⟨HB, BK124, GW124, GE124⟩ := n_; clear hb hbox hg; obtain ⟨hcz16_0, hcz16_1, hcz16_2, hcz16_3, hfz16_0, hfz16_1, hfz16_2, hfz16_3⟩ := xC BK124.out))
      go_ret
      exact ⟨re, bl⟩
     ·rcases iL H with H1 | H1 <;> clear H <;> obtain ⟨H, c17b0⟩ := H1
      ·obtain rfl := Option.some.inj H
       go_enter Tryd.func105, Tryd.ntmps105
       go_wp2_with (first | ((with_reducible refine gd 1 rfl ?_); refine bx 1 #[.int .i64 a0_0, .int .i64 a0_1, .int .i64 a0_2, .int .i64 a0_3] 87 rfl rfl ?_; intro gb124 hg w18 hbox hb; have n_ := aC (bs hb) (aC hbox (aC (gz hg) (aE (gz hg)))); clear HB; obtain ⟨HB, BK124, GW124, GE124⟩ := n_; clear hb hbox hg; obtain ⟨hcz19_0, hcz19_1, hcz19_2, hcz19_3, hfz19_0, hfz19_1, hfz19_2, hfz19_3⟩ := xC BK124.out))
       go_ret
       exact ⟨re, bl⟩
      ·rcases iL H with H1 | H1 <;> clear H <;> obtain ⟨H, c20b0⟩ := H1
       ·obtain rfl := Option.some.inj H
        go_enter Tryd.func105, Tryd.ntmps105
        go_wp2_with (first | ((with_reducible refine gd 1 rfl ?_); refine bx 1 #[.int .i64 a0_0, .int .i64 a0_1, .int .i64 a0_2, .int .i64 a0_3] 87 rfl rfl ?_; intro gb124 hg w21 hbox hb; have n_ := aC (bs hb) (aC hbox (aC (gz hg) (aE (gz hg)))); clear HB; obtain ⟨HB, BK124, GW124, GE124⟩ := n_; clear hb hbox hg; obtain ⟨hcz22_0, hcz22_1, hcz22_2, hcz22_3, hfz22_0, hfz22_1, hfz22_2, hfz22_3⟩ := xC BK124.out))
        go_ret
        exact ⟨re, bl⟩
       ·rcases iL H with H1 | H1 <;> clear H <;> obtain ⟨H, c23b0⟩ := H1
        ·obtain rfl := Option.some.inj H
         go_enter Tryd.func105, Tryd.ntmps105
         go_wp2_with (first | ((with_reducible refine gd 1 rfl ?_); refine bx 1 #[.int .i64 a0_0, .int .i64 a0_1, .int .i64 a0_2, .int .i64 a0_3] 87 rfl rfl ?_; intro gb124 hg w24 hbox hb; have n_ := aC (bs hb) (aC hbox (aC (gz hg) (aE (gz hg)))); clear HB; obtain ⟨HB, BK124, GW124, GE124⟩ := n_; clear hb hbox hg; obtain ⟨hcz25_0, hcz25_1, hcz25_2, hcz25_3, hfz25_0, hfz25_1, hfz25_2, hfz25_3⟩ := xC BK124.out))
         go_ret
         exact ⟨re, bl⟩
        ·rcases iE H with H1 | H1 <;> clear H <;> obtain ⟨H, c26b0, c26b1, c26⟩ := H1
         ·rcases iE H with H1 | H1 <;> clear H <;> obtain ⟨H, c27b0, c27b1, c27⟩ := H1
          ·obtain rfl := Option.some.inj H
           go_enter Tryd.func105, Tryd.ntmps105
           go_wp2_with (first | ((with_reducible refine gd 1 rfl ?_); refine bx 1 #[.int .i64 a0_0, .int .i64 a0_1, .int .i64 a0_2, .int .i64 a0_3] 87 rfl rfl ?_; intro gb124 hg w28 hbox hb; have n_ := aC (bs hb) (aC hbox (aC (gz hg) (aE (gz hg)))); clear HB; obtain ⟨HB, BK124, GW124, GE124⟩ := n_; clear hb hbox hg; obtain ⟨hcz29_0, hcz29_1, hcz29_2, hcz29_3, hfz29_0, hfz29_1, hfz29_2, hfz29_3⟩ := xC BK124.out))
           go_ret
           exact ⟨re, bl⟩
          ·obtain rfl := Option.some.inj H
           go_enter Tryd.func105, Tryd.ntmps105
           go_wp2_with (first | ((with_reducible refine gd 1 rfl ?_); refine bx 1 #[.int .i64 a0_0, .int .i64 a0_1, .int .i64 a0_2, .int .i64 a0_3] 87 rfl rfl ?_; intro gb124 hg w30 hbox hb; have n_ := aC (bs hb) (aC hbox (aC (gz hg) (aE (gz hg)))); clear HB; obtain ⟨HB, BK124, GW124, GE124⟩ := n_; clear hb hbox hg; obtain ⟨hcz31_0, hcz31_1, hcz31_2, hcz31_3, hfz31_0, hfz31_1, hfz31_2, hfz31_3⟩ := xC BK124.out))
           go_ret
           exact ⟨re, bl⟩
         ·obtain rfl := Option.some.inj H
          go_enter Tryd.func105, Tryd.ntmps105
          go_wp2_with (first | ((with_reducible refine gd 1 rfl ?_); refine bx 1 #[.int .i64 a0_0, .int .i64 a0_1, .int .i64 a0_2, .int .i64 a0_3] 87 rfl rfl ?_; intro gb124 hg w32 hbox hb; have n_ := aC (bs hb) (aC hbox (aC (gz hg) (aE (gz hg)))); clear HB; obtain ⟨HB, BK124, GW124, GE124⟩ := n_; clear hb hbox hg; obtain ⟨hcz33_0, hcz33_1, hcz33_2, hcz33_3, hfz33_0, hfz33_1, hfz33_2, hfz33_3⟩ := xC BK124.out))
          go_ret
          exact ⟨re, bl⟩
def wP.l0 : Nat → Int → Int → Int → List (xc) → Int → Int → Option (Int × Int × Int)
 | 0, _, _, _, _, _, _ => none
 | k + 1, x2, x3, x4, x7, x8, x9 => if x9 < x8 then (if 0 ≤ x9 then (if x9 < (x7.length : Int) then (if ((vk x7 x9).f0) = 0 then (wP.l0 k x2 x3 x4 x7 x8 (wrap64 (x9 + 1))) else (if 0 ≤ (wrap64 (15 - ((vk x7 x9).f0))) then (if ((vk x7 x9).f3) = 2 then (wP.l0 k (wrap64 (x2 + (shl .i64 1 (wrap64 (15 - ((vk x7 x9).f0)))))) (wrap64 (x3 + 1)) (wrap64 (x4 + 1)) x7 x8 (wrap64 (x9 + 1))) else (wP.l0 k (wrap64 (x2 + (shl .i64 1 (wrap64 (15 - ((vk x7 x9).f0)))))) (wrap64 (x3 + 1)) x4 x7 x8 (wrap64 (x9 + 1)))) else (none))) else (none)) else (none)) else (some (x2, x3, x4))
def wP.f (k : Nat) (l0 : List (xc)) : Option (Int × Int × Int) := wP.l0 k 0 0 0 l0 (l0.length : Int) 0
theorem wP.wj : ∀ k, (∀ y0 y1 y2 y3 y4 y5, vP (wP.l0 k y0 y1 y2 y3 y4 y5) (wP.l0 (k + 1) y0 y1 y2 y3 y4 y5))
 | 0 => fun _ _ _ _ _ _ r h => by simp [wP.l0] at h
 | k + 1 => by
  have ih0 := wP.wj k
  ·intro y0 y1 y2 y3 y4 y5
   unfold wP.l0
   repeat' first
   | (with_reducible exact ih0 _ _ _ _ _ _)
   | (with_reducible first | exact vP.refl _ | exact vP.none _ | apply vP.ite | refine vP.bind ?_ fun _ => ?_)
theorem wP.mono : ∀ a0 k, vP (wP.f k a0) (wP.f (k + 1) a0) := by
 intro a0 k
 have ih0 := wP.wj k
 unfold wP.f
 repeat' first
   | (with_reducible exact ih0 _ _ _ _ _ _)
   | (with_reducible first | exact vP.refl _ | exact vP.none _ | apply vP.ite | refine vP.bind ?_ fun _ => ?_)
set_option maxHeartbeats 8000000 in
set_option maxRecDepth 100000 in
theorem wP.calls (k : Nat) (A0 : Option Addr) (c0 : Nat) (l0 : List (xc)) (r1 : Int) (r2 : Int) (r3 : Int) (w : World) (hr0 : Kd.C zh w A0 l0.length l0) (hc0 : l0.length ≤ c0) (h : wP.f k l0 = some (r1, r2, r3)) :
  Calls Tryd.prog 106 #[.slice A0 l0.length c0] w fun e w' => e = .returned (.tuple #[.int .i64 r1, .int .i64 r2, .int .i64 r3]) ∧ Below w.heap.size w w' := by
 have hu87 := Tryd.underlying87
 have HR0 := Aside0.mk hr0
 have HC0 := Aside0.mk hc0
 clear hr0 hc0
 have HB := Aside0.mk (Below.refl w.heap.size w)
 have H : (wP.l0 k 0 0 0 l0 (l0.length : Int) 0) = some (r1, r2, r3) := h
 clear h
 have H' := Aside0.mk H
 clear H
 go_enter Tryd.func106, Tryd.ntmps106
 go_wp2
 go_loopg [2, 3, 4, 9] k (fun kq v2 v3 v4 v9 w' => ∃ (x2_1 : Int) (x3_1 : Int) (x4_1 : Int) (x9_1 : Int), v2 = .int .i64 x2_1 ∧ v3 = .int .i64 x3_1 ∧ v4 = .int .i64 x4_1 ∧ v9 = .int .i64 x9_1 ∧ Aside0 (wP.l0 kq x2_1 x3_1 x4_1 l0 (l0.length : Int) x9_1 = some (r1, r2, r3)) ∧ Aside0 (kq ≤ k) ∧ Aside0 (Below w.heap.size w w'))
 case atStart => exact ⟨(0), (0), (0), (0), rq, rq, rq, rq, H', ⟨Nat.le_refl _⟩, ⟨bl⟩⟩
 case round =>
  clear H'
  obtain ⟨x2_1, x3_1, x4_1, x9_1, rfl, rfl, rfl, rfl, HA, HK1, HB⟩ := hrel
  cases gk with
  | zero => exact absurd HA.out (by simp [wP.l0])
  | succ k1 =>
   have H := HA.out
   clear HA
   simp only [wP.l0] at H
   rcases iL H with H1 | H1 <;> clear H <;> obtain ⟨H, c2b0⟩ := H1
   ·by_cases c3 : 0 ≤ x9_1
    ·rw [if_pos c3] at H
     have c3b0 := decide_eq_true c3
     clear c3
     by_cases c4 : x9_1 < (l0.length : Int)
     ·rw [if_pos c4] at H
      have c4b0 := decide_eq_true c4
      clear c4
      rcases iE H with H1 | H1 <;> clear H <;> obtain ⟨H, c5b0, c5b1, c5⟩ := H1
      ·have H' := Aside0.mk H
       clear H
       have p125 : 0 ≤ (x9_1 : Int) := dt
       have q125 : x9_1 < (l0.length : Int) := dt
       obtain ⟨ad125, e125, hx125_0, hx125_1, hx125_2, hx125_3⟩ := xw HR0.out x9_1 p125 q125
       cases e125
       replace hx125_0 := hcB HB.out hx125_0
       replace hx125_1 := hcB HB.out hx125_1
       replace hx125_2 := hcB HB.out hx125_2
       replace hx125_3 := hcB HB.out hx125_3
       replace p125 := eq_true p125
       replace q125 := eq_true q125
       go_wp2_with (first | ((with_reducible refine gd 6 rfl ?_); refine bx 6 #[.int .i64 0, .int .i64 0, .int .i64 0, .int .i64 0] 87 rfl rfl ?_; intro gb126 hg w6 hbox hb; have n_ := aC (bs hb) (aC hbox (aC (gz hg) (aE (gz hg)))); clear HB; obtain ⟨HB, BK126, GW126, GE126⟩ := n_; clear hb hbox hg; obtain ⟨hcz7_0, hcz7_1, hcz7_2, hcz7_3, hfz7_0, hfz7_1, hfz7_2, hfz7_3⟩ := xC BK126.out))
       go_roundg k1
       case measure => have := HK1.out; omega
       case rel => exact ⟨(x2_1), (x3_1), (x4_1), (wrap64 (x9_1 + 1)), rq, rq, rq, rq, H', ⟨by have := HK1.out; omega⟩, ⟨bl⟩⟩
      ·obtain ⟨ji8, hji8⟩ : ∃ j_ : Int, (wrap64 (15 - ((vk l0 x9_1).f0))) = j_ := ⟨_, rfl⟩
       replace H : (if 0 ≤ (ji8) then (if ((vk l0 x9_1).f3) = 2 then (wP.l0 k1 (wrap64 (x2_1 + (shl .i64 1 (ji8)))) (wrap64 (x3_1 + 1)) (wrap64 (x4_1 + 1)) l0 (l0.length : Int) (wrap64 (x9_1 + 1))) else (wP.l0 k1 (wrap64 (x2_1 + (shl .i64 1 (ji8)))) (wrap64 (x3_1 + 1)) x4_1 l0 (l0.length : Int) (wrap64 (x9_1 + 1)))) else (none)) = some (r1, r2, r3) := by first | (rw [hji8] at H; exact H) | (simp only [hji8] at H ⊢; exact H)
       have hji8w : (IntKind.i64.wrap (15 - ((vk l0 x9_1).f0))) = ji8 := (xD _).trans hji8
       by_cases c9 : 0 ≤ (ji8)
       ·rw [if_pos c9] at H
        have c9b0 := eq_true c9
        have c9b1 := decide_eq_true c9
        clear c9
        obtain ⟨ji10, hji10⟩ : ∃ j_ : Int, (shl .i64 1 (ji8)) = j_ := ⟨_, rfl⟩
        replace H : (if ((vk l0 x9_1).f3) = 2 then (wP.l0 k1 (wrap64 (x2_1 + (ji10))) (wrap64 (x3_1 + 1)) (wrap64 (x4_1 + 1)) l0 (l0.length : Int) (wrap64 (x9_1 + 1))) else (wP.l0 k1 (wrap64 (x2_1 + (ji10))) (wrap64 (x3_1 + 1)) x4_1 l0 (l0.length : Int) (wrap64 (x9_1 + 1)))) = some (r1, r2, r3) := by first | (rw [hji10] at H; exact H) | (simp only [hji10] at H ⊢; exact H)
        have hji10_ : (IntKind.i64.wrap (1 * 2 ^ min (ji8).toNat 64)) = ji10 := hji10
        have hji10z : (ji8) ≤ 64 → (IntKind.i64.wrap (1 * 2 ^ (ji8).toNat)) = ji10 := zv hji10
        have hji10u : (IntKind.i64.wrap (2 ^ min (ji8).toNat 64)) = ji10 := by have h_ := hji10_; rw [Int.one_mul] at h_; exact h_
        have hji10v : (ji8) ≤ 64 → (IntKind.i64.wrap (2 ^ (ji8).toNat)) = ji10 := fun hle_ => by have h_ := hji10z hle_; rw [Int.one_mul] at h_; exact h_
        have hji10y : (wrap64 (1 * 2 ^ min (ji8).toNat 64)) = ji10 := (xD _).symm.trans hji10_
        have hji10x : (ji8) ≤ 64 → (wrap64 (1 * 2 ^ (ji8).toNat)) = ji10 := fun h_ => (xD _).symm.trans (hji10z h_)
        rcases iE H with H1 | H1 <;> clear H <;> obtain ⟨H, c11b0, c11b1, c11⟩ := H1
        ·have H' := Aside0.mk H
         clear H
         have p125 : 0 ≤ (x9_1 : Int) := dt
         have q125 : x9_1 < (l0.length : Int) := dt
         obtain ⟨ad125, e125, hx125_0, hx125_1, hx125_2, hx125_3⟩ := xw HR0.out x9_1 p125 q125
         cases e125
         replace hx125_0 := hcB HB.out hx125_0
         replace hx125_1 := hcB HB.out hx125_1
         replace hx125_2 := hcB HB.out hx125_2
         replace hx125_3 := hcB HB.out hx125_3
         replace p125 := eq_true p125
         replace q125 := eq_true q125
         go_wp2_with (first | ((with_reducible refine gd 6 rfl ?_); refine bx 6 #[.int .i64 0, .int .i64 0, .int .i64 0, .int .i64 0] 87 rfl rfl ?_; intro gb126 hg w12 hbox hb; have n_ := aC (bs hb) (aC hbox (aC (gz hg) (aE (gz hg)))); clear HB; obtain ⟨HB, BK126, GW126, GE126⟩ := n_; clear hb hbox hg; obtain ⟨hcz13_0, hcz13_1, hcz13_2, hcz13_3, hfz13_0, hfz13_1, hfz13_2, hfz13_3⟩ := xC BK126.out))
         go_roundg k1
         case measure => have := HK1.out; omega
         case rel => exact ⟨(wrap64 (x2_1 + (ji10))), (wrap64 (x3_1 + 1)), (wrap64 (x4_1 + 1)), (wrap64 (x9_1 + 1)), (by first | rfl | (simp; done) | (simp only [← hji10] <;> (first | rfl | simp)) | (simp [*]; done)), rq, rq, rq, H', ⟨by have := HK1.out; omega⟩, ⟨bl⟩⟩
        ·have H' := Aside0.mk H
         clear H
         have p125 : 0 ≤ (x9_1 : Int) := dt
         have q125 : x9_1 < (l0.length : Int) := dt
         obtain ⟨ad125, e125, hx125_0, hx125_1, hx125_2, hx125_3⟩ := xw HR0.out x9_1 p125 q125
         cases e125
         replace hx125_0 := hcB HB.out hx125_0
         replace hx125_1 := hcB HB.out hx125_1
         replace hx125_2 := hcB HB.out hx125_2
         replace hx125_3 := hcB HB.out hx125_3
         replace p125 := eq_true p125
         replace q125 := eq_true q125
         go_wp2_with (first | ((with_reducible refine gd 6 rfl ?_); refine bx 6 #[.int .i64 0, .int .i64 0, .int .i64 0, .int .i64 0] 87 rfl rfl ?_; intro gb126 hg w14 hbox hb; have n_ := aC (bs hb) (aC hbox (aC (gz hg) (aE (gz hg)))); clear HB; obtain ⟨HB, BK126, GW126, GE126⟩ := n_; clear hb hbox hg; obtain ⟨hcz15_0, hcz15_1, hcz15_2, hcz15_3, hfz15_0, hfz15_1, hfz15_2, hfz15_3⟩ := xC BK126.out))
         go_roundg k1
         case measure => have := HK1.out; omega
         case rel => exact ⟨(wrap64 (x2_1 + (ji10))), (wrap64 (x3_1 + 1)), (x4_1), (wrap64 (x9_1 + 1)), (by first | rfl | (simp; done) | (simp only [← hji10] <;> (first | rfl | simp)) | (simp [*]; done)), rq, rq, rq, H', ⟨by have := HK1.out; omega⟩, ⟨bl⟩⟩
       ·rw [if_neg c9] at H
        exact absurd H (by simp)
     ·rw [if_neg c4] at H
      exact absurd H (by simp)
    ·rw [if_neg c3] at H
     exact absurd H (by simp)
   ·simp only [Option.some.injEq, Prod.mk.injEq] at H
    obtain ⟨rfl, rfl, rfl⟩ := H
    go_wp2
    go_ret3
    exact ⟨re, bl⟩
def xa.l0 : Nat → List (xc) → List (xc) → Int → Int → Option (Bool)
 | 0, _, _, _, _ => none
 | k + 1, x0, x11, x12, x13 => if x13 < x12 then (if 0 ≤ x13 then (if x13 < (x11.length : Int) then ((zg.f ((vk x11 x13).f0) ((vk x11 x13).f1) ((vk x11 x13).f2) ((vk x11 x13).f3)).bind fun t129 => (if t129 = true then (xa.l0 k x0 x11 x12 (wrap64 (x13 + 1))) else (some false))) else (none)) else (none)) else ((wP.f k x0).bind fun bt130 => (if bt130.2.1 > 0 then (if bt130.2.2 ≤ 1 then (some (decide (bt130.1 ≤ 32768))) else (some false)) else (some false)))
def xa.f (k : Nat) (l0 : List (xc)) : Option (Bool) := if (l0.length : Int) > 64 then (some false) else (xa.l0 k l0 l0 (l0.length : Int) 0)
theorem xa.wj : ∀ k, (∀ y0 y1 y2 y3, vP (xa.l0 k y0 y1 y2 y3) (xa.l0 (k + 1) y0 y1 y2 y3))
 | 0 => fun _ _ _ _ r h => by simp [xa.l0] at h
 | k + 1 => by
  have ih0 := xa.wj k
  ·intro y0 y1 y2 y3
   unfold xa.l0
   repeat' first
   | (with_reducible exact ih0 _ _ _ _)
   | (with_reducible exact wP.mono _ _)
   | (with_reducible first | exact vP.refl _ | exact vP.none _ | apply vP.ite | refine vP.bind ?_ fun _ => ?_)
theorem xa.mono : ∀ a0 k, vP (xa.f k a0) (xa.f (k + 1) a0) := by
 intro a0 k
 have ih0 := xa.wj k
 unfold xa.f
 repeat' first
   | (with_reducible exact ih0 _ _ _ _)
   | (with_reducible exact wP.mono _ _)
   | (with_reducible first | exact vP.refl _ | exact vP.none _ | apply vP.ite | refine vP.bind ?_ fun _ => ?_)
set_option maxHeartbeats 8000000 in
set_option maxRecDepth 100000 in
theorem xa.calls (k : Nat) (A0 : Option Addr) (c0 : Nat) (l0 : List (xc)) (r : Bool) (w : World) (hr0 : Kd.C zh w A0 l0.length l0) (hc0 : l0.length ≤ c0) (h : xa.f k l0 = some r) :
  Calls Tryd.prog 86 #[.slice A0 l0.length c0] w fun e w' => e = .returned (.bool r) ∧ Below w.heap.size w w' := by
 have hu87 := Tryd.underlying87
 have HR0 := Aside0.mk hr0
 have HC0 := Aside0.mk hc0
 clear hr0 hc0
 have HB := Aside0.mk (Below.refl w.heap.size w)
 have H : (if (l0.length : Int) > 64 then (some false) else (xa.l0 k l0 l0 (l0.length : Int) 0)) = some r := h
 clear h
 by_cases c2 : (l0.length : Int) > 64
 ·rw [if_pos c2] at H
  have c2b0 := decide_eq_true c2
  have c2b1 : decide (64 < l0.length) = true := decide_eq_true (by omega)
  clear c2
  obtain rfl := Option.some.inj H
  go_enter Tryd.func86, Tryd.ntmps86
  go_wp2
  go_ret
  exact ⟨re, bl⟩
 ·rw [if_neg c2] at H
  have c2b0 := decide_eq_false c2
  have c2b1 : decide (64 < l0.length) = false := decide_eq_false (by omega)
  clear c2
  have H' := Aside0.mk H
  clear H
  go_enter Tryd.func86, Tryd.ntmps86
  go_wp2
  go_loopg [13] k (fun kq v13 w' => ∃ (x13_1 : Int), v13 = .int .i64 x13_1 ∧ Aside0 (xa.l0 kq l0 l0 (l0.length : Int) x13_1 = some r) ∧ Aside0 (kq ≤ k) ∧ Aside0 (Below w.heap.size w w'))
  case atStart => exact ⟨(0), rq, H', ⟨Nat.le_refl _⟩, ⟨bl⟩⟩
  case round =>
   clear H'
   obtain ⟨x13_1, rfl, HA, HK1, HB⟩ := hrel
   cases gk with
   | zero => exact absurd HA.out (by simp [xa.l0])
   | succ k1 =>
    have H := HA.out
    clear HA
    simp only [xa.l0] at H
    rcases iL H with H1 | H1 <;> clear H <;> obtain ⟨H, c3b0⟩ := H1
    ·by_cases c4 : 0 ≤ x13_1
     ·rw [if_pos c4] at H
      have c4b0 := decide_eq_true c4
      clear c4
      by_cases c5 : x13_1 < (l0.length : Int)
      ·rw [if_pos c5] at H
       have c5b0 := decide_eq_true c5
       clear c5
       obtain ⟨t129, A6, H⟩ := oB H
       try dsimp only at H
       by_cases c7 : t129 = true
       ·subst c7
        rw [if_pos rfl] at H
        have H' := Aside0.mk H
        clear H
        have p127 : 0 ≤ (x13_1 : Int) := dt
        have q127 : x13_1 < (l0.length : Int) := dt
        obtain ⟨ad127, e127, hx127_0, hx127_1, hx127_2, hx127_3⟩ := xw HR0.out x13_1 p127 q127
        cases e127
        replace hx127_0 := hcB HB.out hx127_0
        replace hx127_1 := hcB HB.out hx127_1
        replace hx127_2 := hcB HB.out hx127_2
        replace hx127_3 := hcB HB.out hx127_3
        replace p127 := eq_true p127
        replace q127 := eq_true q127
        go_wp2_with (first | ((with_reducible refine gd 4 rfl ?_); refine bx 4 #[.int .i64 0, .int .i64 0, .int .i64 0, .int .i64 0] 87 rfl rfl ?_; intro gb128 hg w8 hbox hb; have n_ := aC (bs hb) (aC hbox (aC (gz hg) (aE (gz hg)))); clear HB; obtain ⟨HB, BK128, GW128, GE128⟩ := n_; clear hb hbox hg; obtain ⟨hcz9_0, hcz9_1, hcz9_2, hcz9_3, hfz9_0, hfz9_1, hfz9_2, hfz9_3⟩ := xC BK128.out) | (refine gF 105 18 Tryd.func105 #[.agg #[.int .i64 ((vk l0 x13_1).f0), .int .i64 ((vk l0 x13_1).f1), .int .i64 ((vk l0 x13_1).f2), .int .i64 ((vk l0 x13_1).f3)]] rfl rfl ?_; (with_reducible refine (zg.calls ((vk l0 x13_1).f0) ((vk l0 x13_1).f1) ((vk l0 x13_1).f2) ((vk l0 x13_1).f3) true _ A6.out).mono ?_); rintro e w10 ⟨rfl, hb⟩; refine ⟨_, rfl, ?_⟩; have n_ := aC (vu (g := gb128) (o := .cells #[.int .i64 ((vk l0 x13_1).f0), .int .i64 ((vk l0 x13_1).f1), .int .i64 ((vk l0 x13_1).f2), .int .i64 ((vk l0 x13_1).f3)] 87 (0, 0)) (by (with_reducible repeat first | apply vl | apply vn | apply vm); refine vv (cs := #[.int .i64 ((vk l0 x13_1).f0), .int .i64 ((vk l0 x13_1).f1), .int .i64 ((vk l0 x13_1).f2), .int .i64 0]) ?_ 3 _ rfl; (with_reducible repeat first | apply vl | apply vn | apply vm); refine vv (cs := #[.int .i64 ((vk l0 x13_1).f0), .int .i64 ((vk l0 x13_1).f1), .int .i64 0, .int .i64 0]) ?_ 2 _ rfl; (with_reducible repeat first | apply vl | apply vn | apply vm); refine vv (cs := #[.int .i64 ((vk l0 x13_1).f0), .int .i64 0, .int .i64 0, .int .i64 0]) ?_ 1 _ rfl; (with_reducible repeat first | apply vl | apply vn | apply vm); refine vv (cs := #[.int .i64 0, .int .i64 0, .int .i64 0, .int .i64 0]) ?_ 0 _ rfl; (with_reducible repeat first | apply vl | apply vn | apply vm); exact BK128.out) hb) (aE (bs hb)); clear BK128 HB; obtain ⟨BK128, HB⟩ := n_))
        go_roundg k1
        case measure => have := HK1.out; omega
        case rel => exact ⟨(wrap64 (x13_1 + 1)), rq, H', ⟨by have := HK1.out; omega⟩, ⟨bl⟩⟩
       ·replace c7 := Bool.eq_false_iff.mpr c7
        subst c7
        rw [if_neg Bool.false_ne_true] at H
        obtain rfl := Option.some.inj H
        have p127 : 0 ≤ (x13_1 : Int) := dt
        have q127 : x13_1 < (l0.length : Int) := dt
        obtain ⟨ad127, e127, hx127_0, hx127_1, hx127_2, hx127_3⟩ := xw HR0.out x13_1 p127 q127
        cases e127
        replace hx127_0 := hcB HB.out hx127_0
        replace hx127_1 := hcB HB.out hx127_1
        replace hx127_2 := hcB HB.out hx127_2
        replace hx127_3 := hcB HB.out hx127_3
        replace p127 := eq_true p127
        replace q127 := eq_true q127
        go_wp2_with (first | ((with_reducible refine gd 4 rfl ?_); refine bx 4 #[.int .i64 0, .int .i64 0, .int .i64 0, .int .i64 0] 87 rfl rfl ?_; intro gb128 hg w11 hbox hb; have n_ := aC (bs hb) (aC hbox (aC (gz hg) (aE (gz hg)))); clear HB; obtain ⟨HB, BK128, GW128, GE128⟩ := n_; clear hb hbox hg; obtain ⟨hcz12_0, hcz12_1, hcz12_2, hcz12_3, hfz12_0, hfz12_1, hfz12_2, hfz12_3⟩ := xC BK128.out) | (refine gF 105 18 Tryd.func105 #[.agg #[.int .i64 ((vk l0 x13_1).f0), .int .i64 ((vk l0 x13_1).f1), .int .i64 ((vk l0 x13_1).f2), .int .i64 ((vk l0 x13_1).f3)]] rfl rfl ?_; (with_reducible refine (zg.calls ((vk l0 x13_1).f0) ((vk l0 x13_1).f1) ((vk l0 x13_1).f2) ((vk l0 x13_1).f3) false _ A6.out).mono ?_); rintro e w13 ⟨rfl, hb⟩; refine ⟨_, rfl, ?_⟩; have n_ := aC (vu (g := gb128) (o := .cells #[.int .i64 ((vk l0 x13_1).f0), .int .i64 ((vk l0 x13_1).f1), .int .i64 ((vk l0 x13_1).f2), .int .i64 ((vk l0 x13_1).f3)] 87 (0, 0)) (by (with_reducible repeat first | apply vl | apply vn | apply vm); refine vv (cs := #[.int .i64 ((vk l0 x13_1).f0), .int .i64 ((vk l0 x13_1).f1), .int .i64 ((vk l0 x13_1).f2), .int .i64 0]) ?_ 3 _ rfl; (with_reducible repeat first | apply vl | apply vn | apply vm); refine vv (cs := #[.int .i64 ((vk l0 x13_1).f0), .int .i64 ((vk l0 x13_1).f1), .int .i64 0, .int .i64 0]) ?_ 2 _ rfl; (with_reducible repeat first | apply vl | apply vn | apply vm); refine vv (cs := #[.int .i64 ((vk l0 x13_1).f0), .int .i64 0, .int .i64 0, .int .i64 0]) ?_ 1 _ rfl; (with_reducible repeat first | apply vl | apply vn | apply vm); refine vv (cs := #[.int .i64 0, .int .i64 0, .int .i64 0, .int .i64 0]) ?_ 0 _ rfl; (with_reducible repeat first | apply vl | apply vn | apply vm); exact BK128.out) hb) (aE (bs hb)); clear BK128 HB; obtain ⟨BK128, HB⟩ := n_))
        go_ret
        exact ⟨re, bl⟩
      ·rw [if_neg c5] at H
       exact absurd H (by simp)
     ·rw [if_neg c4] at H
      exact absurd H (by simp)
    ·obtain ⟨⟨t130, t131, t132⟩, A14, H⟩ := oB H
     try dsimp only at H
     rcases iL H with H1 | H1 <;> clear H <;> obtain ⟨H, c15b0⟩ := H1
     ·rcases iL H with H1 | H1 <;> clear H <;> obtain ⟨H, c16b0⟩ := H1
      ·obtain rfl := Option.some.inj H
       go_wp2_with (first | (refine gF 106 23 Tryd.func106 #[.slice A0 l0.length c0] rfl rfl ?_; (with_reducible refine (wP.calls k1 _ _ l0 t130 t131 t132 _ ?side1 ?side2 A14.out).mono ?_); (case side1 => exact cU (Kd.wO HR0.out HB.out)); (case side2 => exact HC0.out); rintro e w17 ⟨rfl, hb⟩; refine ⟨_, rfl, ?_⟩; have n_ := aE (bs hb); clear HB; have HB := n_; clear n_))
       go_ret
       exact ⟨re, bl⟩
      ·obtain rfl := Option.some.inj H
       go_wp2_with (first | (refine gF 106 23 Tryd.func106 #[.slice A0 l0.length c0] rfl rfl ?_; (with_reducible refine (wP.calls k1 _ _ l0 t130 t131 t132 _ ?side1 ?side2 A14.out).mono ?_); (case side1 => exact cU (Kd.wO HR0.out HB.out)); (case side2 => exact HC0.out); rintro e w18 ⟨rfl, hb⟩; refine ⟨_, rfl, ?_⟩; have n_ := aE (bs hb); clear HB; have HB := n_; clear n_))
       go_ret
       exact ⟨re, bl⟩
     ·obtain rfl := Option.some.inj H
      go_wp2_with (first | (refine gF 106 23 Tryd.func106 #[.slice A0 l0.length c0] rfl rfl ?_; (with_reducible refine (wP.calls k1 _ _ l0 t130 t131 t132 _ ?side1 ?side2 A14.out).mono ?_); (case side1 => exact cU (Kd.wO HR0.out HB.out)); (case side2 => exact HC0.out); rintro e w19 ⟨rfl, hb⟩; refine ⟨_, rfl, ?_⟩; have n_ := aE (bs hb); clear HB; have HB := n_; clear n_))
      go_ret
      exact ⟨re, bl⟩
end Go.Proofs.YtknclbodinfbeaaDoor.PRunsSame
