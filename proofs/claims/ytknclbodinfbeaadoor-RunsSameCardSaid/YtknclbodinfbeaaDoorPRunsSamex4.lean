-- printed (wip/tools/myprint.py)
import Derived.Test.YtknclbodinfbeaaDoorPRunsSamex0
import Derived.Test.YtknclbodinfbeaaDoorPRunsSamex1
import Derived.Test.YtknclbodinfbeaaDoorPRunsSamex3
namespace Go.Proofs.YtknclbodinfbeaaDoor.PRunsSame
open Go.RowKit Go.Proofs.YtknclbodinfbeaaDoorW.PrintWords Go.Proofs.YtknclbodinfbeaaDoorW.PrintLast Go.Proofs.YtknclbodinfbeaaDoorW.PrintMore
attribute [local go_sem] yf yc yD yE xV xU ye yh
set_option linter.unusedVariables false
set_option linter.unusedSimpArgs false
def wZ.f (k : Nat) (a0 : Int) (a1 : Int) : Option (List Int) := (xI.f k 0).bind fun bt183 => ((xy.f k bt183.1 false (wrap64 (Int.tdiv a0 64))).bind fun bt187 => ((yJ.f a1).bind fun t191 => ((xy.f k t191 false (Int.tmod a0 64)).bind fun bt194 => (if bt187.1.length + bt194.1.length < 140737488355328 then (some (bt187.1 ++ bt194.1)) else (none)))))
theorem wZ.mono : ∀ a0 a1 k, vP (wZ.f k a0 a1) (wZ.f (k + 1) a0 a1) := by
 intro a0 a1 k
 unfold wZ.f
 repeat' first
   | (with_reducible exact xy.mono _ _ _ _)
   | (with_reducible exact xI.mono _ _)
   | (with_reducible first | exact vP.refl _ | exact vP.none _ | apply vP.ite | refine vP.bind ?_ fun _ => ?_)
set_option maxHeartbeats 8000000 in
set_option maxRecDepth 100000 in
theorem wZ.calls (k : Nat) (a0 : Int) (a1 : Int) (r : List Int) (w : World) (h : wZ.f k a0 a1 = some r) :
  Calls Tryd.prog 36 #[.int .i64 a0, .int .i64 a1] w fun e w' => ∃ v0_ : Value, e = .returned (v0_) ∧ Kd.R (Kd.int .u8) 5 w' w.heap.size (fun _ => True) v0_ r ∧ Below w.heap.size w w' := by
 have hu64 := Tryd.underlying64
 have HB := Aside0.mk (Below.refl w.heap.size w)
 have H := h
 unfold wZ.f at H
 clear h
 obtain ⟨⟨t183, t184⟩, A3, H⟩ := oB H
 try dsimp only at H
 obtain ⟨⟨t187, t190⟩, A4, H⟩ := oB H
 try dsimp only at H
 obtain ⟨t191, A5, H⟩ := oB H
 try dsimp only at H
 obtain ⟨⟨t194, t197⟩, A6, H⟩ := oB H
 try dsimp only at H
 by_cases c7 : t187.length + t194.length < 140737488355328
 ·rw [if_pos c7] at H
  have LMc7 := Aside0.mk c7
  clear c7
  obtain ⟨y198, hy_⟩ : ∃ y_ : List Int, y_ = (t187 ++ t194) := ⟨_, rfl⟩
  replace H : (some y198) = some r := rh
  have Ny198 := aE hy_
  clear hy_
  obtain rfl := Option.some.inj H
  go_enter Tryd.func36, Tryd.ntmps36
  go_wp2_with (first | (refine gF 57 12 Tryd.func57 #[.int .i64 0] rfl rfl ?_; (with_reducible refine (xI.calls k 0 t183 t184 _ A3.out).mono ?_); rintro e w8 ⟨v185, rfl, ho0, hb⟩; refine ⟨_, rfl, ?_⟩; have n_ := aC (Kd.vX ho0 bz) (aE (bs hb)); clear HB; obtain ⟨HO186, HB⟩ := n_; obtain ⟨Ao9, co9, eo9⟩ := Kd.wq HO186.out; subst eo9) | (refine gF 58 20 Tryd.func58 #[.slice Ao9 t183.length co9, .agg #[.bool false, .int .i64 (wrap64 (Int.tdiv a0 64))]] rfl rfl ?_; (with_reducible refine (xy.calls k _ _ t183 false (wrap64 (Int.tdiv a0 64)) t187 t190 _ ?side1 ?side2 A4.out).mono ?_); (case side1 => exact cU (Kd.R_reads' HO186.out).2.2); (case side2 => exact (Kd.R_reads' HO186.out).2.1); rintro e w10 ⟨v188, rfl, ho0, hb⟩; refine ⟨_, rfl, ?_⟩; have n_ := aC (Kd.vT (rU HO186.out) hb) (aC (Kd.vX ho0 bz) (aE (bs hb))); clear HO186 HB; obtain ⟨HO186, HO189, HB⟩ := n_) | (refine gF 59 25 Tryd.func59 #[.int .i64 a1] rfl rfl ?_; (with_reducible refine (yJ.calls a1 t191 _ A5.out).mono ?_); rintro e w11 ⟨v192, rfl, ho0, hb⟩; refine ⟨_, rfl, ?_⟩; have n_ := aC (Kd.R_elder' (rU HO186.out) (Kd.xi ho0) hb) (aC (Kd.vT (rU HO189.out) hb) (aC (Kd.vX (Kd.R_new' ho0 (Kd.xX (rU HO186.out))) bz) (aE (bs hb)))); clear HO186 HO189 HB; obtain ⟨HO186, HO189, HO193, HB⟩ := n_; obtain ⟨Ao12, co12, eo12⟩ := Kd.wq HO193.out; subst eo12) | (refine gF 58 29 Tryd.func58 #[.slice Ao12 t191.length co12, .agg #[.bool false, .int .i64 (Int.tmod a0 64)]] rfl rfl ?_; (with_reducible refine (xy.calls k _ _ t191 false (Int.tmod a0 64) t194 t197 _ ?side1 ?side2 A6.out).mono ?_); (case side1 => exact cU (Kd.R_reads' HO193.out).2.2); (case side2 => exact (Kd.R_reads' HO193.out).2.1); rintro e w13 ⟨v195, rfl, ho0, hb⟩; refine ⟨_, rfl, ?_⟩; have n_ := aC (Kd.vT (rU HO186.out) hb) (aC (Kd.R_elder' (rU HO189.out) (Kd.xi ho0) hb) (aC (Kd.vT (rU HO193.out) hb) (aC (Kd.vX (Kd.R_new' ho0 (Kd.xX (rU HO189.out))) bz) (aE (bs hb))))); clear HO186 HO189 HO193 HB; obtain ⟨HO186, HO189, HO193, HO196, HB⟩ := n_; obtain ⟨Ao15, co15, eo15⟩ := Kd.wq HO196.out; subst eo15) | ((with_reducible refine xb (b := .append) (xs := #[.tmp 32, .tmp 33]) rfl ?_); at_builtin; refine Kd.xW (Kd.int .u8) (w0 := w) w.heap.size rfl (.tmp 32) (.tmp 33) 22 5 (.int .u8 0) 1 rfl Tryd.underlying22 info5 rfl (by decide) (by omega) v188 t187 t194 _ _ _ (fun k_ => some k_ ≠ (.slice Ao15 t194.length co15 : Value).ownBlock) (fun _ => False) rfl rfl ?aO ?aR (fun _ _ h => h) (fun _ h => h.elim) ?aF ?aB ?aS ?aL ?_; (case aR => repeat (first | exact (Kd.R_reads' HO196.out).2.2 | (with_reducible refine Kd.yk ?_ _) | (with_reducible refine Kd.yj ?_ _) | (with_reducible refine Kd.yI ?_))); (case aB => exact bl); (case aF => exact (fun k_ hk => Kd.fresh' (Kd.xX (rU HO196.out)) k_ hk)); (case aO => exact (rU (Kd.vY HO189.out (fun _ hk => hk.2)))); (case aS => exact bz); (case aL => have := LMc7.out; omega); intro v199 w14 ho hb hg hat; rw [← Ny198.out] at ho; have n_ := aC (Kd.R_over' (rU HO186.out) (Kd.zB (rU HO189.out)) (by decide) hg) (aC (Kd.R_over' (rU HO193.out) (Kd.zB (rU HO189.out)) (by decide) hg) (aC (Kd.yU (ok := (fun _ => True)) (rU HO196.out) hg hat) (aC hb (aE ho)))); clear HO186 HO193 HO196 HB HO189; obtain ⟨HO186, HO193, HO196, HB, HO200⟩ := n_; clear ho hb hg hat))
  go_ret
  exact ⟨_, re, rU (Kd.vY HO200.out (fun _ hk => trivial)), bl⟩
 ·rw [if_neg c7] at H
  exact absurd H (by simp)
def xG.f (k : Nat) (a0 : Int) (a1 : Int) : Option (List Int × Int) := if a0 < 0 then (some (([] : List Int), 2)) else (if a0 > 200 then (some (([] : List Int), 2)) else (if a1 = 0 then ((wZ.f k a0 a1).bind fun t201 => (some (t201, 0))) else (if a1 = 1 then ((wZ.f k a0 a1).bind fun t204 => (some (t204, 0))) else (some (([] : List Int), 2)))))
theorem xG.mono : ∀ a0 a1 k, vP (xG.f k a0 a1) (xG.f (k + 1) a0 a1) := by
 intro a0 a1 k
 unfold xG.f
 repeat' first
   | (with_reducible exact wZ.mono _ _ _)
   | (with_reducible first | exact vP.refl _ | exact vP.none _ | apply vP.ite | refine vP.bind ?_ fun _ => ?_)
set_option maxHeartbeats 8000000 in
set_option maxRecDepth 100000 in
theorem xG.calls (k : Nat) (a0 : Int) (a1 : Int) (r1 : List Int) (r2 : Int) (w : World) (h : xG.f k a0 a1 = some (r1, r2)) :
  Calls Tryd.prog 12 #[.int .i64 a0, .int .i64 a1] w fun e w' => ∃ v0_ : Value, e = .returned (.tuple #[v0_, .int .i64 r2]) ∧ Kd.R (Kd.int .u8) 5 w' w.heap.size (fun _ => True) v0_ r1 ∧ Below w.heap.size w w' := by
 have HB := Aside0.mk (Below.refl w.heap.size w)
 have H := h
 unfold xG.f at H
 clear h
 rcases iL H with H1 | H1 <;> clear H <;> obtain ⟨H, c3b0⟩ := H1
 ·simp only [Option.some.injEq, Prod.mk.injEq] at H
  obtain ⟨rfl, rfl⟩ := H
  go_enter Tryd.func12, Tryd.ntmps12
  go_wp2
  go_ret2
  exact ⟨_, re, by first | exact Kd.yC _ _ _ _ _ | exact Kd.za _ _ _ _ _ | exact Kd.y9 _ _ _ _ _ | exact Kd.zb _ _ _ _ _ | exact Kd.yZ _ _ _ _ _, bl⟩
 ·rcases iL H with H1 | H1 <;> clear H <;> obtain ⟨H, c4b0⟩ := H1
  ·simp only [Option.some.injEq, Prod.mk.injEq] at H
   obtain ⟨rfl, rfl⟩ := H
   go_enter Tryd.func12, Tryd.ntmps12
   go_wp2
   go_ret2
   exact ⟨_, re, by first | exact Kd.yC _ _ _ _ _ | exact Kd.za _ _ _ _ _ | exact Kd.y9 _ _ _ _ _ | exact Kd.zb _ _ _ _ _ | exact Kd.yZ _ _ _ _ _, bl⟩
  ·rcases iE H with H1 | H1 <;> clear H <;> obtain ⟨H, c5b0, c5b1, c5⟩ := H1
   ·obtain ⟨t201, A6, H⟩ := oB H
    try dsimp only at H
    simp only [Option.some.injEq, Prod.mk.injEq] at H
    obtain ⟨rfl, rfl⟩ := H
    go_enter Tryd.func12, Tryd.ntmps12
    go_wp2_with (first | (refine gF 36 22 Tryd.func36 #[.int .i64 a0, .int .i64 a1] rfl rfl ?_; (with_reducible refine (wZ.calls k a0 a1 t201 _ A6.out).mono ?_); rintro e w7 ⟨v202, rfl, ho0, hb⟩; refine ⟨_, rfl, ?_⟩; have n_ := aC (Kd.vX ho0 bz) (aE (bs hb)); clear HB; obtain ⟨HO203, HB⟩ := n_))
    go_ret2
    exact ⟨_, re, rU HO203.out, bl⟩
   ·rcases iE H with H1 | H1 <;> clear H <;> obtain ⟨H, c8b0, c8b1, c8⟩ := H1
    ·obtain ⟨t204, A9, H⟩ := oB H
     try dsimp only at H
     simp only [Option.some.injEq, Prod.mk.injEq] at H
     obtain ⟨rfl, rfl⟩ := H
     go_enter Tryd.func12, Tryd.ntmps12
     go_wp2_with (first | (refine gF 36 22 Tryd.func36 #[.int .i64 a0, .int .i64 a1] rfl rfl ?_; (with_reducible refine (wZ.calls k a0 a1 t204 _ A9.out).mono ?_); rintro e w10 ⟨v205, rfl, ho0, hb⟩; refine ⟨_, rfl, ?_⟩; have n_ := aC (Kd.vX ho0 bz) (aE (bs hb)); clear HB; obtain ⟨HO206, HB⟩ := n_))
     go_ret2
     exact ⟨_, re, rU HO206.out, bl⟩
    ·simp only [Option.some.injEq, Prod.mk.injEq] at H
     obtain ⟨rfl, rfl⟩ := H
     go_enter Tryd.func12, Tryd.ntmps12
     go_wp2
     go_ret2
     exact ⟨_, re, by first | exact Kd.yC _ _ _ _ _ | exact Kd.za _ _ _ _ _ | exact Kd.y9 _ _ _ _ _ | exact Kd.zb _ _ _ _ _ | exact Kd.yZ _ _ _ _ _, bl⟩
def vR.l0 : Nat → List Int → List Int → Int → Int → Option (Bool)
 | 0, _, _, _, _ => none
 | k + 1, x0, x1, x12, x13 => if x13 < x12 then (if 0 ≤ x13 then (if x13 < (x0.length : Int) then (if x13 < (x1.length : Int) then (if (rd x0 x13) = (rd x1 x13) then (vR.l0 k x0 x1 x12 (wrap64 (x13 + 1))) else (some false)) else (none)) else (none)) else (none)) else (some true)
def vR.f (k : Nat) (l0 : List Int) (l1 : List Int) : Option (Bool) := if (l0.length : Int) = (l1.length : Int) then (vR.l0 k l0 l1 (l0.length : Int) 0) else (some false)
theorem vR.wj : ∀ k, (∀ y0 y1 y2 y3, vP (vR.l0 k y0 y1 y2 y3) (vR.l0 (k + 1) y0 y1 y2 y3))
 | 0 => fun _ _ _ _ r h => by simp [vR.l0] at h
 | k + 1 => by
  have ih0 := vR.wj k
  ·intro y0 y1 y2 y3
   unfold vR.l0
   repeat' first
   | (with_reducible exact ih0 _ _ _ _)
   | (with_reducible first | exact vP.refl _ | exact vP.none _ | apply vP.ite | refine vP.bind ?_ fun _ => ?_)
theorem vR.mono : ∀ a0 a1 k, vP (vR.f k a0 a1) (vR.f (k + 1) a0 a1) := by
 intro a0 a1 k
 have ih0 := vR.wj k
 unfold vR.f
 repeat' first
   | (with_reducible exact ih0 _ _ _ _)
   | (with_reducible first | exact vP.refl _ | exact vP.none _ | apply vP.ite | refine vP.bind ?_ fun _ => ?_)
set_option maxHeartbeats 8000000 in
set_option maxRecDepth 100000 in
theorem vR.calls (k : Nat) (A0 : Option Addr) (c0 : Nat) (l0 : List Int) (A1 : Option Addr) (c1 : Nat) (l1 : List Int) (r : Bool) (w : World) (hr0 : Kd.C (Kd.int .u8) w A0 l0.length l0) (hc0 : l0.length ≤ c0) (hr1 : Kd.C (Kd.int .u8) w A1 l1.length l1) (hc1 : l1.length ≤ c1) (h : vR.f k l0 l1 = some r) :
  Calls Tryd.prog 14 #[.slice A0 l0.length c0, .slice A1 l1.length c1] w fun e w' => e = .returned (.bool r) ∧ wa w w' := by
 have HR0 := Aside0.mk hr0
 have HC0 := Aside0.mk hc0
 clear hr0 hc0
 have HR1 := Aside0.mk hr1
 have HC1 := Aside0.mk hc1
 clear hr1 hc1
 have H := h
 unfold vR.f at H
 clear h
 by_cases c3 : (l0.length : Int) = (l1.length : Int)
 ·rw [if_pos c3] at H
  have c3b0 := beq_iff_eq.mpr c3
  have c3b1 := bne_eq_false_iff_eq.mpr c3
  have c3b2 : (l0.length == l1.length) = true := by first | simpa using c3 | (simp at c3 ⊢; omega)
  clear c3
  have H' := Aside0.mk H
  clear H
  go_enter Tryd.func14, Tryd.ntmps14
  go_wp2
  go_loopg [13] k (fun kq v13 w' => ∃ (x13_1 : Int), v13 = .int .i64 x13_1 ∧ Aside0 (vR.l0 kq l0 l1 (l0.length : Int) x13_1 = some r) ∧ Aside0 (kq ≤ k) ∧ wa w w')
  case atStart => exact ⟨(0), rq, H', ⟨Nat.le_refl _⟩, by repeat (first | exact wa.refl _ | apply wa.step)⟩
  case round =>
   clear H'
   try clear c1
   obtain ⟨x13_1, rfl, HA, HK1, ⟨m1, rfl⟩⟩ := hrel
   cases gk with
   | zero => exact absurd HA.out (by simp [vR.l0])
   | succ k1 =>
    have H := HA.out
    clear HA
    simp only [vR.l0] at H
    rcases iL H with H1 | H1 <;> clear H <;> obtain ⟨H, c4b0⟩ := H1
    ·by_cases c5 : 0 ≤ x13_1
     ·rw [if_pos c5] at H
      have c5b0 := decide_eq_true c5
      clear c5
      by_cases c6 : x13_1 < (l0.length : Int)
      ·rw [if_pos c6] at H
       have c6b0 := decide_eq_true c6
       clear c6
       by_cases c7 : x13_1 < (l1.length : Int)
       ·rw [if_pos c7] at H
        have c7b0 := decide_eq_true c7
        clear c7
        rcases iE H with H1 | H1 <;> clear H <;> obtain ⟨H, c8b0, c8b1, c8⟩ := H1
        ·have H' := Aside0.mk H
         clear H
         have p207 : 0 ≤ (x13_1 : Int) := dt
         have q207 : x13_1 < (l0.length : Int) := dt
         obtain ⟨ad207, e207, hx207_0⟩ := Kd.xL HR0.out x13_1 p207 q207
         cases e207
         replace p207 := eq_true p207
         replace q207 := eq_true q207
         have p208 : 0 ≤ (x13_1 : Int) := dt
         have q208 : x13_1 < (l1.length : Int) := dt
         obtain ⟨ad208, e208, hx208_0⟩ := Kd.xL HR1.out x13_1 p208 q208
         cases e208
         replace p208 := eq_true p208
         replace q208 := eq_true q208
         go_wp2
         repeat (go_quiet (fail); try go_wp2)
         go_roundg k1
         case measure => have := HK1.out; omega
         case rel => exact ⟨(wrap64 (x13_1 + 1)), rq, H', ⟨by have := HK1.out; omega⟩, by repeat (first | exact wa.refl _ | apply wa.step)⟩
        ·obtain rfl := Option.some.inj H
         have p207 : 0 ≤ (x13_1 : Int) := dt
         have q207 : x13_1 < (l0.length : Int) := dt
         obtain ⟨ad207, e207, hx207_0⟩ := Kd.xL HR0.out x13_1 p207 q207
         cases e207
         replace p207 := eq_true p207
         replace q207 := eq_true q207
         have p208 : 0 ≤ (x13_1 : Int) := dt
         have q208 : x13_1 < (l1.length : Int) := dt
         obtain ⟨ad208, e208, hx208_0⟩ := Kd.xL HR1.out x13_1 p208 q208
         cases e208
         replace p208 := eq_true p208
         replace q208 := eq_true q208
         go_wp2
         repeat (go_quiet (fail); try go_wp2)
         go_ret
         exact ⟨by first | rfl | (simp; done) | (simp [*]; done), by repeat (first | exact wa.refl _ | apply wa.step)⟩
       ·rw [if_neg c7] at H
        exact absurd H (by simp)
      ·rw [if_neg c6] at H
       exact absurd H (by simp)
     ·rw [if_neg c5] at H
      exact absurd H (by simp)
    ·obtain rfl := Option.some.inj H
     go_wp2
     go_ret
     exact ⟨by first | rfl | (simp; done) | (simp [*]; done), by repeat (first | exact wa.refl _ | apply wa.step)⟩
 ·rw [if_neg c3] at H
  have c3b0 := beq_eq_false_iff_ne.mpr c3
  have c3b1 := bne_iff_ne.mpr c3
  have c3b2 : (l0.length == l1.length) = false := by first | simpa using c3 | (simp at c3 ⊢; omega)
  obtain rfl := Option.some.inj H
  go_enter Tryd.func14, Tryd.ntmps14
  go_wp2
  go_ret
  exact ⟨by first | rfl | (simp; done) | (simp [*]; done), by repeat (first | exact wa.refl _ | apply wa.step)⟩
def zu.f (a0 : Int) : Option (Bool) := some (decide (a0 > 1))
set_option maxHeartbeats 8000000 in
set_option maxRecDepth 100000 in
theorem zu.calls (a0 : Int) (r : Bool) (w : World) (h : zu.f a0 = some r) :
  Calls Tryd.prog 65 #[.int .u8 a0] w fun e w' => e = .returned (.bool r) ∧ wa w w' := by
 have H : (some (decide (a0 > 1))) = some r := h
 clear h
 obtain rfl := Option.some.inj H
 go_enter Tryd.func65, Tryd.ntmps65
 go_wp2
 go_ret
 exact ⟨by first | rfl | (simp; done) | (simp [*]; done), by repeat (first | exact wa.refl _ | apply wa.step)⟩
def vD.l0 : Nat → List Int → Int → Int → Option (Int)
 | 0, _, _, _ => none
 | k + 1, x0, x7, x8 => if x8 < x7 then (if 0 ≤ x8 then (if x8 < (x0.length : Int) then ((zu.f (rd x0 x8)).bind fun t210 => (if t210 = true then (some x8) else (vD.l0 k x0 x7 (wrap64 (x8 + 1))))) else (none)) else (none)) else (some (-1))
def vD.f (k : Nat) (l0 : List Int)  : Option (Int) := vD.l0 k l0 (l0.length : Int) 0
theorem vD.wj : ∀ k, (∀ y0 y1 y2, vP (vD.l0 k y0 y1 y2) (vD.l0 (k + 1) y0 y1 y2))
 | 0 => fun _ _ _ r h => by simp [vD.l0] at h
 | k + 1 => by
  have ih0 := vD.wj k
  ·intro y0 y1 y2
   unfold vD.l0
   repeat' first
   | (with_reducible exact ih0 _ _ _)
   | (with_reducible first | exact vP.refl _ | exact vP.none _ | apply vP.ite | refine vP.bind ?_ fun _ => ?_)
theorem vD.mono : ∀ a0 k, vP (vD.f k a0) (vD.f (k + 1) a0) := by
 intro a0 k
 have ih0 := vD.wj k
 unfold vD.f
 repeat' first
   | (with_reducible exact ih0 _ _ _)
   | (with_reducible first | exact vP.refl _ | exact vP.none _ | apply vP.ite | refine vP.bind ?_ fun _ => ?_)
set_option maxHeartbeats 8000000 in
set_option maxRecDepth 100000 in
theorem vD.calls (k : Nat) (A0 : Option Addr) (c0 : Nat) (l0 : List Int)  (r : Int) (w : World) (hr0 : Kd.C (Kd.int .u8) w A0 l0.length l0) (hc0 : l0.length ≤ c0) (h : vD.f k l0 = some r) :
  Calls Tryd.prog 89 #[.slice A0 l0.length c0, .func (.func 65) #[] #[]] w fun e w' => e = .returned (.int .i64 r) ∧ Below w.heap.size w w' := by
 have HR0 := Aside0.mk hr0
 have HC0 := Aside0.mk hc0
 clear hr0 hc0
 have HB := Aside0.mk (Below.refl w.heap.size w)
 have H : (vD.l0 k l0 (l0.length : Int) 0) = some r := h
 clear h
 have H' := Aside0.mk H
 clear H
 go_enter Tryd.func89, Tryd.ntmps89
 go_wp2
 go_loopg [8] k (fun kq v8 w' => ∃ (x8_1 : Int), v8 = .int .i64 x8_1 ∧ Aside0 (vD.l0 kq l0 (l0.length : Int) x8_1 = some r) ∧ Aside0 (kq ≤ k) ∧ Aside0 (Below w.heap.size w w'))
 case atStart => exact ⟨(0), rq, H', ⟨Nat.le_refl _⟩, ⟨bl⟩⟩
 case round =>
  clear H'
  obtain ⟨x8_1, rfl, HA, HK1, HB⟩ := hrel
  cases gk with
  | zero => exact absurd HA.out (by simp [vD.l0])
  | succ k1 =>
   have H := HA.out
   clear HA
   simp only [vD.l0] at H
   rcases iL H with H1 | H1 <;> clear H <;> obtain ⟨H, c3b0⟩ := H1
   ·by_cases c4 : 0 ≤ x8_1
    ·rw [if_pos c4] at H
     have c4b0 := decide_eq_true c4
     clear c4
     by_cases c5 : x8_1 < (l0.length : Int)
     ·rw [if_pos c5] at H
      have c5b0 := decide_eq_true c5
      clear c5
      obtain ⟨t210, A6, H⟩ := oB H
      try dsimp only at H
      by_cases c7 : t210 = true
      ·subst c7
       rw [if_pos rfl] at H
       obtain rfl := Option.some.inj H
       have p209 : 0 ≤ (x8_1 : Int) := dt
       have q209 : x8_1 < (l0.length : Int) := dt
       obtain ⟨ad209, e209, hx209_0⟩ := Kd.xL HR0.out x8_1 p209 q209
       cases e209
       replace hx209_0 := hcB HB.out hx209_0
       replace p209 := eq_true p209
       replace q209 := eq_true q209
       go_wp2_with (first | ((with_reducible refine zO rfl ?_); refine ks (some 16) rfl rfl Tryd.func65 (by kernel_rfl) rfl #[.int .u8 (rd l0 x8_1)] rfl rfl (by (try simp only [List.map_toArray, List.map_cons, List.map_nil]); first | done | rfl | (simp only [List.length_drop, List.length_take]; rfl)) ?_; (with_reducible refine (zu.calls (rd l0 x8_1) true _ A6.out).mono ?_); rintro e w' ⟨rfl, ⟨nd, rfl⟩⟩; refine ⟨_, rfl, ?_⟩))
       go_ret
       exact ⟨re, bl⟩
      ·replace c7 := Bool.eq_false_iff.mpr c7
       subst c7
       rw [if_neg Bool.false_ne_true] at H
       have H' := Aside0.mk H
       clear H
       have p209 : 0 ≤ (x8_1 : Int) := dt
       have q209 : x8_1 < (l0.length : Int) := dt
       obtain ⟨ad209, e209, hx209_0⟩ := Kd.xL HR0.out x8_1 p209 q209
       cases e209
       replace hx209_0 := hcB HB.out hx209_0
       replace p209 := eq_true p209
       replace q209 := eq_true q209
       go_wp2_with (first | ((with_reducible refine zO rfl ?_); refine ks (some 16) rfl rfl Tryd.func65 (by kernel_rfl) rfl #[.int .u8 (rd l0 x8_1)] rfl rfl (by (try simp only [List.map_toArray, List.map_cons, List.map_nil]); first | done | rfl | (simp only [List.length_drop, List.length_take]; rfl)) ?_; (with_reducible refine (zu.calls (rd l0 x8_1) false _ A6.out).mono ?_); rintro e w' ⟨rfl, ⟨nd, rfl⟩⟩; refine ⟨_, rfl, ?_⟩))
       go_roundg k1
       case measure => have := HK1.out; omega
       case rel => exact ⟨(wrap64 (x8_1 + 1)), rq, H', ⟨by have := HK1.out; omega⟩, ⟨bl⟩⟩
     ·rw [if_neg c5] at H
      exact absurd H (by simp)
    ·rw [if_neg c4] at H
     exact absurd H (by simp)
   ·obtain rfl := Option.some.inj H
    go_wp2
    go_ret
    exact ⟨re, bl⟩
def wR.f (k : Nat) (l0 : List Int)  : Option (Bool) := (vD.f k l0).bind fun t211 => (some (decide (t211 ≥ 0)))
theorem wR.mono : ∀ a0 k, vP (wR.f k a0) (wR.f (k + 1) a0) := by
 intro a0 k
 unfold wR.f
 repeat' first
   | (with_reducible exact vD.mono _ _)
   | (with_reducible first | exact vP.refl _ | exact vP.none _ | apply vP.ite | refine vP.bind ?_ fun _ => ?_)
set_option maxHeartbeats 8000000 in
set_option maxRecDepth 100000 in
theorem wR.calls (k : Nat) (A0 : Option Addr) (c0 : Nat) (l0 : List Int)  (r : Bool) (w : World) (hr0 : Kd.C (Kd.int .u8) w A0 l0.length l0) (hc0 : l0.length ≤ c0) (h : wR.f k l0 = some r) :
  Calls Tryd.prog 64 #[.slice A0 l0.length c0, .func (.func 65) #[] #[]] w fun e w' => e = .returned (.bool r) ∧ Below w.heap.size w w' := by
 have HR0 := Aside0.mk hr0
 have HC0 := Aside0.mk hc0
 clear hr0 hc0
 have HB := Aside0.mk (Below.refl w.heap.size w)
 have H : ((vD.f k l0).bind fun t211 => (some (decide (t211 ≥ 0)))) = some r := h
 clear h
 obtain ⟨t211, A3, H⟩ := oB H
 try dsimp only at H
 obtain rfl := Option.some.inj H
 go_enter Tryd.func64, Tryd.ntmps64
 go_wp2_with (first | (refine gF 89 7 Tryd.func89 #[.slice A0 l0.length c0, .func (.func 65) #[] #[]] rfl rfl ?_; (with_reducible refine (vD.calls k _ _ l0  t211 _ ?side1 ?side2 A3.out).mono ?_); (case side1 => exact cU HR0.out); (case side2 => exact HC0.out); rintro e w4 ⟨rfl, hb⟩; refine ⟨_, rfl, ?_⟩; have n_ := aE (bs hb); clear HB; have HB := n_; clear n_))
 go_ret
 exact ⟨re, bl⟩
def xK.f (k : Nat) (l0 : List Int) : Option (Bool) := if (l0.length : Int) ≤ 200 then ((wR.f k l0).bind fun t212 => (some (!t212))) else (some false)
theorem xK.mono : ∀ a0 k, vP (xK.f k a0) (xK.f (k + 1) a0) := by
 intro a0 k
 unfold xK.f
 repeat' first
   | (with_reducible exact wR.mono _ _)
   | (with_reducible first | exact vP.refl _ | exact vP.none _ | apply vP.ite | refine vP.bind ?_ fun _ => ?_)
set_option maxHeartbeats 8000000 in
set_option maxRecDepth 100000 in
theorem xK.calls (k : Nat) (A0 : Option Addr) (c0 : Nat) (l0 : List Int) (r : Bool) (w : World) (hr0 : Kd.C (Kd.int .u8) w A0 l0.length l0) (hc0 : l0.length ≤ c0) (h : xK.f k l0 = some r) :
  Calls Tryd.prog 40 #[.slice A0 l0.length c0] w fun e w' => e = .returned (.bool r) ∧ Below w.heap.size w w' := by
 have HR0 := Aside0.mk hr0
 have HC0 := Aside0.mk hc0
 clear hr0 hc0
 have HB := Aside0.mk (Below.refl w.heap.size w)
 have H := h
 unfold xK.f at H
 clear h
 by_cases c2 : (l0.length : Int) ≤ 200
 ·rw [if_pos c2] at H
  have c2b0 := decide_eq_true c2
  have c2b1 : decide (l0.length ≤ 200) = true := decide_eq_true (by omega)
  clear c2
  obtain ⟨t212, A3, H⟩ := oB H
  try dsimp only at H
  obtain rfl := Option.some.inj H
  go_enter Tryd.func40, Tryd.ntmps40
  go_wp2_with (first | (go_at_call 64; (with_reducible refine (wR.calls k _ _ l0  t212 _ ?side1 ?side2 A3.out).mono ?_); (case side1 => exact cU HR0.out); (case side2 => exact HC0.out); rintro e w4 ⟨rfl, hb⟩; have n_ := aE (bs hb); clear HB; have HB := n_; clear n_))
  go_ret
  exact ⟨re, bl⟩
 ·rw [if_neg c2] at H
  have c2b0 := decide_eq_false c2
  have c2b1 : decide (l0.length ≤ 200) = false := decide_eq_false (by omega)
  clear c2
  obtain rfl := Option.some.inj H
  go_enter Tryd.func40, Tryd.ntmps40
  go_wp2
  go_ret
  exact ⟨re, bl⟩
def vQ.l0 : Nat → List Int → Int → Int → Option (Int)
 | 0, _, _, _ => none
 | k + 1, x0, x2, x7 => if x7 < (x0.length : Int) then (if 0 ≤ x7 then (if (rd x0 x7) = x2 then (some (mn x7 (x0.length : Int))) else (vQ.l0 k x0 x2 (wrap64 (x7 + 1)))) else (none)) else (some (mn x7 (x0.length : Int)))
def vQ.f (k : Nat) (l0 : List Int) (a1 : Int) (a2 : Int) : Option (Int) := vQ.l0 k l0 a2 (wrap64 (a1 + 1))
theorem vQ.wj : ∀ k, (∀ y0 y1 y2, vP (vQ.l0 k y0 y1 y2) (vQ.l0 (k + 1) y0 y1 y2))
 | 0 => fun _ _ _ r h => by simp [vQ.l0] at h
 | k + 1 => by
  have ih0 := vQ.wj k
  ·intro y0 y1 y2
   unfold vQ.l0
   repeat' first
   | (with_reducible exact ih0 _ _ _)
   | (with_reducible first | exact vP.refl _ | exact vP.none _ | apply vP.ite | refine vP.bind ?_ fun _ => ?_)
theorem vQ.mono : ∀ a0 a1 a2 k, vP (vQ.f k a0 a1 a2) (vQ.f (k + 1) a0 a1 a2) := by
 intro a0 a1 a2 k
 have ih0 := vQ.wj k
 unfold vQ.f
 repeat' first
   | (with_reducible exact ih0 _ _ _)
   | (with_reducible first | exact vP.refl _ | exact vP.none _ | apply vP.ite | refine vP.bind ?_ fun _ => ?_)
set_option maxHeartbeats 8000000 in
set_option maxRecDepth 100000 in
theorem vQ.calls (k : Nat) (A0 : Option Addr) (c0 : Nat) (l0 : List Int) (a1 : Int) (a2 : Int) (r : Int) (w : World) (hr0 : Kd.C (Kd.int .u8) w A0 l0.length l0) (hc0 : l0.length ≤ c0) (h : vQ.f k l0 a1 a2 = some r) :
  Calls Tryd.prog 67 #[.slice A0 l0.length c0, .int .i64 a1, .int .u8 a2] w fun e w' => e = .returned (.int .i64 r) ∧ Below w.heap.size w w' := by
 have HR0 := Aside0.mk hr0
 have HC0 := Aside0.mk hc0
 clear hr0 hc0
 have HB := Aside0.mk (Below.refl w.heap.size w)
 have H : (vQ.l0 k l0 a2 (wrap64 (a1 + 1))) = some r := h
 clear h
 have H' := Aside0.mk H
 clear H
 go_enter Tryd.func67, Tryd.ntmps67
 go_wp2
 go_loopg [7] k (fun kq v7 w' => ∃ (x7_1 : Int), v7 = .int .i64 x7_1 ∧ Aside0 (vQ.l0 kq l0 a2 x7_1 = some r) ∧ Aside0 (kq ≤ k) ∧ Aside0 (Below w.heap.size w w'))
 case atStart => exact ⟨(wrap64 (a1 + 1)), rq, H', ⟨Nat.le_refl _⟩, ⟨bl⟩⟩
 case round =>
  clear H'
  obtain ⟨x7_1, rfl, HA, HK1, HB⟩ := hrel
  cases gk with
  | zero => exact absurd HA.out (by simp [vQ.l0])
  | succ k1 =>
   have H := HA.out
   clear HA
   simp only [vQ.l0] at H
   rcases iL H with H1 | H1 <;> clear H <;> obtain ⟨H, c4b0⟩ := H1
   ·by_cases c5 : 0 ≤ x7_1
    ·rw [if_pos c5] at H
     have c5b0 := decide_eq_true c5
     clear c5
     rcases iE H with H1 | H1 <;> clear H <;> obtain ⟨H, c6b0, c6b1, c6⟩ := H1
     ·obtain ⟨ji7, hji7⟩ : ∃ j_ : Int, (mn x7_1 (l0.length : Int)) = j_ := ⟨_, rfl⟩
      replace H : (some ji7) = some r := by first | (rw [hji7] at H; exact H) | (simp only [hji7] at H ⊢; exact H)
      have hji7_ : (if (l0.length : Int) < x7_1 then (l0.length : Int) else x7_1) = ji7 := hji7
      obtain rfl := Option.some.inj H
      have p213 : 0 ≤ (x7_1 : Int) := dt
      have q213 : x7_1 < (l0.length : Int) := dt
      obtain ⟨ad213, e213, hx213_0⟩ := Kd.xL HR0.out x7_1 p213 q213
      cases e213
      replace hx213_0 := hcB HB.out hx213_0
      replace p213 := eq_true p213
      replace q213 := eq_true q213
      go_wp2
      go_ret
      exact ⟨by first | rfl | (simp [wL, wK] <;> rfl) | (simp only [← hji7]; first | rfl | (simp [wL, wK] <;> rfl)) | (simp [*, wL, wK] <;> rfl), bl⟩
     ·have H' := Aside0.mk H
      clear H
      have p213 : 0 ≤ (x7_1 : Int) := dt
      have q213 : x7_1 < (l0.length : Int) := dt
      obtain ⟨ad213, e213, hx213_0⟩ := Kd.xL HR0.out x7_1 p213 q213
      cases e213
      replace hx213_0 := hcB HB.out hx213_0
      replace p213 := eq_true p213
      replace q213 := eq_true q213
      go_wp2
      go_roundg k1
      case measure => have := HK1.out; omega
      case rel => exact ⟨(wrap64 (x7_1 + 1)), rq, H', ⟨by have := HK1.out; omega⟩, ⟨bl⟩⟩
    ·rw [if_neg c5] at H
     exact absurd H (by simp)
   ·obtain ⟨ji8, hji8⟩ : ∃ j_ : Int, (mn x7_1 (l0.length : Int)) = j_ := ⟨_, rfl⟩
    replace H : (some ji8) = some r := by first | (rw [hji8] at H; exact H) | (simp only [hji8] at H ⊢; exact H)
    have hji8_ : (if (l0.length : Int) < x7_1 then (l0.length : Int) else x7_1) = ji8 := hji8
    obtain rfl := Option.some.inj H
    go_wp2
    go_ret
    exact ⟨by first | rfl | (simp [wL, wK] <;> rfl) | (simp only [← hji8]; first | rfl | (simp [wL, wK] <;> rfl)) | (simp [*, wL, wK] <;> rfl), bl⟩
end Go.Proofs.YtknclbodinfbeaaDoor.PRunsSame
