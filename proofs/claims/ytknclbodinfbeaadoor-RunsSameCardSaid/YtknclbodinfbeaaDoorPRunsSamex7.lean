-- printed (wip/tools/myprint.py)
import Derived.Test.YtknclbodinfbeaaDoorPRunsSamex0
namespace Go.Proofs.YtknclbodinfbeaaDoor.PRunsSame
open Go.RowKit Go.Proofs.YtknclbodinfbeaaDoorW.PrintWords Go.Proofs.YtknclbodinfbeaaDoorW.PrintLast Go.Proofs.YtknclbodinfbeaaDoorW.PrintMore
attribute [local go_sem] yf yc yD yE xV xU ye yh
set_option linter.unusedVariables false
set_option linter.unusedSimpArgs false
def wg.l0 : Nat → List Int → Int → Int → Option (Bool)
 | 0, _, _, _ => none
 | k + 1, x5, x6, x7 => if x7 < x6 then (if 0 ≤ x7 then (if x7 < (x5.length : Int) then (if (rd x5 x7) > 1 then (some false) else (wg.l0 k x5 x6 (wrap64 (x7 + 1)))) else (none)) else (none)) else (some true)
def wg.f (k : Nat) (l0 : List Int) : Option (Bool) := wg.l0 k l0 (l0.length : Int) 0
theorem wg.wj : ∀ k, (∀ y0 y1 y2, vP (wg.l0 k y0 y1 y2) (wg.l0 (k + 1) y0 y1 y2))
 | 0 => fun _ _ _ r h => by simp [wg.l0] at h
 | k + 1 => by
  have ih0 := wg.wj k
  ·intro y0 y1 y2
   unfold wg.l0
   repeat' first
   | (with_reducible exact ih0 _ _ _)
   | (with_reducible first | exact vP.refl _ | exact vP.none _ | apply vP.ite | refine vP.bind ?_ fun _ => ?_)
theorem wg.mono : ∀ a0 k, vP (wg.f k a0) (wg.f (k + 1) a0) := by
 intro a0 k
 have ih0 := wg.wj k
 unfold wg.f
 repeat' first
   | (with_reducible exact ih0 _ _ _)
   | (with_reducible first | exact vP.refl _ | exact vP.none _ | apply vP.ite | refine vP.bind ?_ fun _ => ?_)
set_option maxHeartbeats 8000000 in
set_option maxRecDepth 100000 in
theorem wg.calls (k : Nat) (A0 : Option Addr) (c0 : Nat) (l0 : List Int) (r : Bool) (w : World) (hr0 : Kd.C (Kd.int .u8) w A0 l0.length l0) (hc0 : l0.length ≤ c0) (h : wg.f k l0 = some r) :
  Calls Tryd.prog 43 #[.slice A0 l0.length c0] w fun e w' => e = .returned (.bool r) ∧ wa w w' := by
 have HR0 := Aside0.mk hr0
 have HC0 := Aside0.mk hc0
 clear hr0 hc0
 have H : (wg.l0 k l0 (l0.length : Int) 0) = some r := h
 clear h
 have H' := Aside0.mk H
 clear H
 go_enter Tryd.func43, Tryd.ntmps43
 go_wp2
 go_loopg [7] k (fun kq v7 w' => ∃ (x7_1 : Int), v7 = .int .i64 x7_1 ∧ Aside0 (wg.l0 kq l0 (l0.length : Int) x7_1 = some r) ∧ Aside0 (kq ≤ k) ∧ wa w w')
 case atStart => exact ⟨(0), rq, H', ⟨Nat.le_refl _⟩, by repeat (first | exact wa.refl _ | apply wa.step)⟩
 case round =>
  clear H'
  obtain ⟨x7_1, rfl, HA, HK1, ⟨m1, rfl⟩⟩ := hrel
  cases gk with
  | zero => exact absurd HA.out (by simp [wg.l0])
  | succ k1 =>
   have H := HA.out
   clear HA
   simp only [wg.l0] at H
   rcases iL H with H1 | H1 <;> clear H <;> obtain ⟨H, c2b0⟩ := H1
   ·by_cases c3 : 0 ≤ x7_1
    ·rw [if_pos c3] at H
     have c3b0 := decide_eq_true c3
     clear c3
     by_cases c4 : x7_1 < (l0.length : Int)
     ·rw [if_pos c4] at H
      have c4b0 := decide_eq_true c4
      clear c4
      rcases iL H with H1 | H1 <;> clear H <;> obtain ⟨H, c5b0⟩ := H1
      ·obtain rfl := Option.some.inj H
       have p270 : 0 ≤ (x7_1 : Int) := dt
       have q270 : x7_1 < (l0.length : Int) := dt
       obtain ⟨ad270, e270, hx270_0⟩ := Kd.xL HR0.out x7_1 p270 q270
       cases e270
       replace p270 := eq_true p270
       replace q270 := eq_true q270
       go_wp2
       go_ret
       exact ⟨by first | rfl | (simp; done) | (simp [*]; done), by repeat (first | exact wa.refl _ | apply wa.step)⟩
      ·have H' := Aside0.mk H
       clear H
       have p270 : 0 ≤ (x7_1 : Int) := dt
       have q270 : x7_1 < (l0.length : Int) := dt
       obtain ⟨ad270, e270, hx270_0⟩ := Kd.xL HR0.out x7_1 p270 q270
       cases e270
       replace p270 := eq_true p270
       replace q270 := eq_true q270
       go_wp2
       go_roundg k1
       case measure => have := HK1.out; omega
       case rel => exact ⟨(wrap64 (x7_1 + 1)), rq, H', ⟨by have := HK1.out; omega⟩, by repeat (first | exact wa.refl _ | apply wa.step)⟩
     ·rw [if_neg c4] at H
      exact absurd H (by simp)
    ·rw [if_neg c3] at H
     exact absurd H (by simp)
   ·obtain rfl := Option.some.inj H
    go_wp2
    go_ret
    exact ⟨by first | rfl | (simp; done) | (simp [*]; done), by repeat (first | exact wa.refl _ | apply wa.step)⟩
def wQ.f (k : Nat) (l0 : List Int) : Option (Bool) := if (l0.length : Int) ≤ 200 then ((wg.f k l0).bind fun t271 => (some t271)) else (some false)
theorem wQ.mono : ∀ a0 k, vP (wQ.f k a0) (wQ.f (k + 1) a0) := by
 intro a0 k
 unfold wQ.f
 repeat' first
   | (with_reducible exact wg.mono _ _)
   | (with_reducible first | exact vP.refl _ | exact vP.none _ | apply vP.ite | refine vP.bind ?_ fun _ => ?_)
set_option maxHeartbeats 8000000 in
set_option maxRecDepth 100000 in
theorem wQ.calls (k : Nat) (A0 : Option Addr) (c0 : Nat) (l0 : List Int) (r : Bool) (w : World) (hr0 : Kd.C (Kd.int .u8) w A0 l0.length l0) (hc0 : l0.length ≤ c0) (h : wQ.f k l0 = some r) :
  Calls Tryd.prog 17 #[.slice A0 l0.length c0] w fun e w' => e = .returned (.bool r) ∧ wa w w' := by
 have HR0 := Aside0.mk hr0
 have HC0 := Aside0.mk hc0
 clear hr0 hc0
 have H := h
 unfold wQ.f at H
 clear h
 by_cases c2 : (l0.length : Int) ≤ 200
 ·rw [if_pos c2] at H
  have c2b0 := decide_eq_true c2
  have c2b1 : decide (l0.length ≤ 200) = true := decide_eq_true (by omega)
  clear c2
  obtain ⟨t271, A3, H⟩ := oB H
  try dsimp only at H
  obtain rfl := Option.some.inj H
  go_enter Tryd.func17, Tryd.ntmps17
  go_wp2_with (first | (go_at_call 43; (with_reducible refine (wg.calls k _ _ l0 t271 _ ?side1 ?side2 A3.out).mono ?_); (case side1 => exact cU HR0.out); (case side2 => exact HC0.out); rintro e w' ⟨rfl, ⟨nd, rfl⟩⟩))
  go_ret
  exact ⟨by first | rfl | (simp; done) | (simp [*]; done), by repeat (first | exact wa.refl _ | apply wa.step)⟩
 ·rw [if_neg c2] at H
  have c2b0 := decide_eq_false c2
  have c2b1 : decide (l0.length ≤ 200) = false := decide_eq_false (by omega)
  clear c2
  obtain rfl := Option.some.inj H
  go_enter Tryd.func17, Tryd.ntmps17
  go_wp2
  go_ret
  exact ⟨by first | rfl | (simp; done) | (simp [*]; done), by repeat (first | exact wa.refl _ | apply wa.step)⟩
def yx.f (a0 : Int) (a1 : Int) : Option (Bool) := if a0 ≥ 0 then (if a1 ≥ 0 then (if a0 ≤ 200 then (if a1 ≤ 200 then (some (decide ((wrap64 (a0 * a1)) ≤ 8192))) else (some false)) else (some false)) else (some false)) else (some false)
set_option maxHeartbeats 8000000 in
set_option maxRecDepth 100000 in
theorem yx.calls (a0 : Int) (a1 : Int) (r : Bool) (w : World) (h : yx.f a0 a1 = some r) :
  Calls Tryd.prog 75 #[.int .i64 a0, .int .i64 a1] w fun e w' => e = .returned (.bool r) ∧ wa w w' := by
 have H := h
 unfold yx.f at H
 clear h
 rcases iL H with H1 | H1 <;> clear H <;> obtain ⟨H, c3b0⟩ := H1
 ·rcases iL H with H1 | H1 <;> clear H <;> obtain ⟨H, c4b0⟩ := H1
  ·rcases iL H with H1 | H1 <;> clear H <;> obtain ⟨H, c5b0⟩ := H1
   ·rcases iL H with H1 | H1 <;> clear H <;> obtain ⟨H, c6b0⟩ := H1
    ·obtain rfl := Option.some.inj H
     go_enter Tryd.func75, Tryd.ntmps75
     go_wp2
     go_ret
     exact ⟨by first | rfl | (simp; done) | (simp [*]; done), by repeat (first | exact wa.refl _ | apply wa.step)⟩
    ·obtain rfl := Option.some.inj H
     go_enter Tryd.func75, Tryd.ntmps75
     go_wp2
     go_ret
     exact ⟨by first | rfl | (simp; done) | (simp [*]; done), by repeat (first | exact wa.refl _ | apply wa.step)⟩
   ·obtain rfl := Option.some.inj H
    go_enter Tryd.func75, Tryd.ntmps75
    go_wp2
    go_ret
    exact ⟨by first | rfl | (simp; done) | (simp [*]; done), by repeat (first | exact wa.refl _ | apply wa.step)⟩
  ·obtain rfl := Option.some.inj H
   go_enter Tryd.func75, Tryd.ntmps75
   go_wp2
   go_ret
   exact ⟨by first | rfl | (simp; done) | (simp [*]; done), by repeat (first | exact wa.refl _ | apply wa.step)⟩
 ·obtain rfl := Option.some.inj H
  go_enter Tryd.func75, Tryd.ntmps75
  go_wp2
  go_ret
  exact ⟨by first | rfl | (simp; done) | (simp [*]; done), by repeat (first | exact wa.refl _ | apply wa.step)⟩
mutual
def wu.j0 : Nat → Bool → Int → Int → List Int → Option (Bool)
 | 0, _, _, _, _ => none
 | k + 1, x21, x273000, x273001, x273002 => if x21 = true then (some false) else (wu.l0 k x273002 (x273002.length : Int) 0)
def wu.l0 : Nat → List Int → Int → Int → Option (Bool)
 | 0, _, _, _ => none
 | k + 1, x23, x24, x25 => if x25 < x24 then (if 0 ≤ x25 then (if x25 < (x23.length : Int) then (if (rd x23 x25) > 1 then (some false) else (wu.l0 k x23 x24 (wrap64 (x25 + 1)))) else (none)) else (none)) else (some true)
end
def wu.f (k : Nat) (a0_0 : Int) (a0_1 : Int) (l0_2 : List Int) : Option (Bool) := (yx.f a0_0 a0_1).bind fun t273 => (if t273 = true then (wu.j0 k ((l0_2.length : Int) != (wrap64 (a0_0 * a0_1))) a0_0 a0_1 l0_2) else (wu.j0 k true a0_0 a0_1 l0_2))
theorem wu.wj : ∀ k, (∀ y0 y1 y2 y3, vP (wu.j0 k y0 y1 y2 y3) (wu.j0 (k + 1) y0 y1 y2 y3)) ∧ (∀ y0 y1 y2, vP (wu.l0 k y0 y1 y2) (wu.l0 (k + 1) y0 y1 y2))
 | 0 => ⟨fun _ _ _ _ r h => by simp [wu.j0] at h, fun _ _ _ r h => by simp [wu.l0] at h⟩
 | k + 1 => by
  obtain ⟨ih0, ih1⟩ := wu.wj k
  refine ⟨?_, ?_⟩
  ·intro y0 y1 y2 y3
   unfold wu.j0
   repeat' first
   | (with_reducible exact ih0 _ _ _ _)
   | (with_reducible exact ih1 _ _ _)
   | (with_reducible first | exact vP.refl _ | exact vP.none _ | apply vP.ite | refine vP.bind ?_ fun _ => ?_)
  ·intro y0 y1 y2
   unfold wu.l0
   repeat' first
   | (with_reducible exact ih0 _ _ _ _)
   | (with_reducible exact ih1 _ _ _)
   | (with_reducible first | exact vP.refl _ | exact vP.none _ | apply vP.ite | refine vP.bind ?_ fun _ => ?_)
theorem wu.mono : ∀ a0 a1 a2 k, vP (wu.f k a0 a1 a2) (wu.f (k + 1) a0 a1 a2) := by
 intro a0 a1 a2 k
 obtain ⟨ih0, ih1⟩ := wu.wj k
 unfold wu.f
 repeat' first
   | (with_reducible exact ih0 _ _ _ _)
   | (with_reducible exact ih1 _ _ _)
   | (with_reducible first | exact vP.refl _ | exact vP.none _ | apply vP.ite | refine vP.bind ?_ fun _ => ?_)
set_option maxHeartbeats 8000000 in
set_option maxRecDepth 100000 in
theorem wu.calls (k : Nat) (a0_0 : Int) (a0_1 : Int) (A0_2 : Option Addr) (c0_2 : Nat) (l0_2 : List Int) (r : Bool) (w : World) (hr0_2 : Kd.C (Kd.int .u8) w A0_2 l0_2.length l0_2) (hc0_2 : l0_2.length ≤ c0_2) (h : wu.f k a0_0 a0_1 l0_2 = some r) :
  Calls Tryd.prog 47 #[.agg #[.int .i64 a0_0, .int .i64 a0_1, .slice A0_2 l0_2.length c0_2]] w fun e w' => e = .returned (.bool r) ∧ Below w.heap.size w w' := by
 have hu48 := Tryd.underlying48
 have HR0_2 := Aside0.mk hr0_2
 have HC0_2 := Aside0.mk hc0_2
 clear hr0_2 hc0_2
 have HB := Aside0.mk (Below.refl w.heap.size w)
 have H := h
 unfold wu.f at H
 clear h
 have HC2 := Aside0.mk H
 clear H
 go_enter Tryd.func47, Tryd.ntmps47
 go_upto_region 1 with (first | ((with_reducible refine gd 1 rfl ?_); (try (refine yb (by rfl) ?_; dsimp only)); refine bx 1 #[.int .i64 a0_0, .int .i64 a0_1, .slice A0_2 l0_2.length c0_2] 48 rfl rfl ?_; intro gb272 hg w3 hbox hb; have n_ := aC (bs hb) (aC hbox (aC (gz hg) (aE (gz hg)))); clear HB; obtain ⟨HB, BK272, GW272, GE272⟩ := n_; clear hb hbox hg))
 (try simp only [Act.put, List.setIfInBounds_toArray, List.set_cons_zero, List.set_cons_succ])
 go_cut [21] (fun v21 wc => ∃ (kq : Nat) (x21_1 : Bool), v21 = .bool x21_1 ∧ Aside0 (wu.j0 kq x21_1 a0_0 a0_1 l0_2 = some r) ∧ Aside0 (kq ≤ k) ∧ Aside0 (wc.heap[gb272]? = some (.cells #[.int .i64 a0_0, .int .i64 a0_1, (.slice A0_2 l0_2.length c0_2)] 48 (0, 0))) ∧ Aside0 (Below w.heap.size w wc))
 case first =>
  have H := HC2.out
  clear HC2
  obtain ⟨t273, A4, H⟩ := oB H
  try dsimp only at H
  by_cases c5 : t273 = true
  ·subst c5
   rw [if_pos rfl] at H
   have H' := Aside0.mk H
   clear H
   obtain ⟨hcz6_0, hcz6_1, hcz6_2, hfz6_0, hfz6_1, hfz6_2⟩ := zo BK272.out
   go_wp2_with (first | (refine gF 75 9 Tryd.func75 #[.int .i64 a0_0, .int .i64 a0_1] rfl rfl ?_; (with_reducible refine (yx.calls a0_0 a0_1 true _ A4.out).mono ?_); rintro e w' ⟨rfl, ⟨nd, rfl⟩⟩; refine ⟨_, rfl, ?_⟩))
   go_meet
   case rel => exact ⟨_, (((l0_2.length : Int) != (wrap64 (a0_0 * a0_1)))), rq, H', ⟨by first | omega | exact Nat.le_refl _⟩, ⟨bU BK272.out⟩, ⟨bl⟩⟩
  ·replace c5 := Bool.eq_false_iff.mpr c5
   subst c5
   rw [if_neg Bool.false_ne_true] at H
   have H' := Aside0.mk H
   clear H
   obtain ⟨hcz7_0, hcz7_1, hcz7_2, hfz7_0, hfz7_1, hfz7_2⟩ := zo BK272.out
   go_wp2_with (first | (refine gF 75 9 Tryd.func75 #[.int .i64 a0_0, .int .i64 a0_1] rfl rfl ?_; (with_reducible refine (yx.calls a0_0 a0_1 false _ A4.out).mono ?_); rintro e w' ⟨rfl, ⟨nd, rfl⟩⟩; refine ⟨_, rfl, ?_⟩))
   go_meet
   case rel => exact ⟨_, (true), rq, H', ⟨by first | omega | exact Nat.le_refl _⟩, ⟨bU BK272.out⟩, ⟨bl⟩⟩
 case rest =>
  clear HC2
  obtain ⟨kq, x21_1, rfl, HA, HJ1, BK272, HB⟩ := hcut
  cases kq with
  | zero => exact absurd HA.out (by simp [wu.j0])
  | succ kj1 =>
   have H := HA.out
   clear HA
   simp only [wu.j0] at H
   by_cases c8 : x21_1 = true
   ·subst c8
    rw [if_pos rfl] at H
    obtain rfl := Option.some.inj H
    go_wp2
    go_ret
    exact ⟨re, bl⟩
   ·replace c8 := Bool.eq_false_iff.mpr c8
    subst c8
    rw [if_neg Bool.false_ne_true] at H
    have H' := Aside0.mk H
    clear H
    obtain ⟨hcz9_0, hcz9_1, hcz9_2, hfz9_0, hfz9_1, hfz9_2⟩ := zo BK272.out
    go_wp2
    go_loopg [25] kj1 (fun kq v25 w' => ∃ (x25_2 : Int), v25 = .int .i64 x25_2 ∧ Aside0 (wu.l0 kq l0_2 (l0_2.length : Int) x25_2 = some r) ∧ Aside0 (kq ≤ kj1) ∧ Aside0 (w'.heap[gb272]? = some (.cells #[.int .i64 a0_0, .int .i64 a0_1, (.slice A0_2 l0_2.length c0_2)] 48 (0, 0))) ∧ Aside0 (Below w.heap.size w w'))
    case atStart => exact ⟨(0), rq, H', ⟨Nat.le_refl _⟩, ⟨bU BK272.out⟩, ⟨bl⟩⟩
    case round =>
     clear H'
     obtain ⟨x25_2, rfl, HA, HK2, BK272, HB⟩ := hrel
     cases gk with
     | zero => exact absurd HA.out (by simp [wu.l0])
     | succ k2 =>
      have H := HA.out
      clear HA
      simp only [wu.l0] at H
      rcases iL H with H1 | H1 <;> clear H <;> obtain ⟨H, c10b0⟩ := H1
      ·by_cases c11 : 0 ≤ x25_2
       ·rw [if_pos c11] at H
        have c11b0 := decide_eq_true c11
        clear c11
        by_cases c12 : x25_2 < (l0_2.length : Int)
        ·rw [if_pos c12] at H
         have c12b0 := decide_eq_true c12
         clear c12
         rcases iL H with H1 | H1 <;> clear H <;> obtain ⟨H, c13b0⟩ := H1
         ·obtain rfl := Option.some.inj H
          have p274 : 0 ≤ (x25_2 : Int) := dt
          have q274 : x25_2 < (l0_2.length : Int) := dt
          obtain ⟨ad274, e274, hx274_0⟩ := Kd.xL HR0_2.out x25_2 p274 q274
          cases e274
          replace hx274_0 := hcB HB.out hx274_0
          replace p274 := eq_true p274
          replace q274 := eq_true q274
          go_wp2
          go_ret
          exact ⟨re, bl⟩
         ·have H' := Aside0.mk H
          clear H
          have p274 : 0 ≤ (x25_2 : Int) := dt
          have q274 : x25_2 < (l0_2.length : Int) := dt
          obtain ⟨ad274, e274, hx274_0⟩ := Kd.xL HR0_2.out x25_2 p274 q274
          cases e274
          replace hx274_0 := hcB HB.out hx274_0
          replace p274 := eq_true p274
          replace q274 := eq_true q274
          go_wp2
          go_roundg k2
          case measure => have := HJ1.out; have := HK2.out; omega
          case rel => exact ⟨(wrap64 (x25_2 + 1)), rq, H', ⟨by have := HJ1.out; have := HK2.out; omega⟩, ⟨bU BK272.out⟩, ⟨bl⟩⟩
        ·rw [if_neg c12] at H
         exact absurd H (by simp)
       ·rw [if_neg c11] at H
        exact absurd H (by simp)
      ·obtain rfl := Option.some.inj H
       go_wp2
       go_ret
       exact ⟨re, bl⟩
def xe.l0 : Nat → List (List Int) → Int → Int → Int → Int → List Int → Option ((List (List Int)))
 | 0, _, _, _, _, _, _ => none
 | k + 1, x3, x6, x7, x276000, x276001, x276002 => if x7 < x6 then (if 0 ≤ (wrap64 (x7 * x276000)) then (if (wrap64 (x7 * x276000)) ≤ (wrap64 ((wrap64 (x7 + 1)) * x276000)) then (if (wrap64 ((wrap64 (x7 + 1)) * x276000)) ≤ (x276002.length : Int) then (if x3.length < 5864062014805 then (xe.l0 k (x3 ++ [((x276002.take ((wrap64 ((wrap64 (x7 + 1)) * x276000)) : Int).toNat).drop ((wrap64 (x7 * x276000)) : Int).toNat)]) x6 (wrap64 (x7 + 1)) x276000 x276001 x276002) else (none)) else (none)) else (none)) else (none)) else (some x3)
def xe.f (k : Nat) (a0_0 : Int) (a0_1 : Int) (l0_2 : List Int) : Option ((List (List Int))) := xe.l0 k ([] : List (List Int)) a0_1 0 a0_0 a0_1 l0_2
theorem xe.wj : ∀ k, (∀ y0 y1 y2 y3 y4 y5, vP (xe.l0 k y0 y1 y2 y3 y4 y5) (xe.l0 (k + 1) y0 y1 y2 y3 y4 y5))
 | 0 => fun _ _ _ _ _ _ r h => by simp [xe.l0] at h
 | k + 1 => by
  have ih0 := xe.wj k
  ·intro y0 y1 y2 y3 y4 y5
   unfold xe.l0
   repeat' first
   | (with_reducible exact ih0 _ _ _ _ _ _)
   | (with_reducible first | exact vP.refl _ | exact vP.none _ | apply vP.ite | refine vP.bind ?_ fun _ => ?_)
theorem xe.mono : ∀ a0 a1 a2 k, vP (xe.f k a0 a1 a2) (xe.f (k + 1) a0 a1 a2) := by
 intro a0 a1 a2 k
 have ih0 := xe.wj k
 unfold xe.f
 repeat' first
   | (with_reducible exact ih0 _ _ _ _ _ _)
   | (with_reducible first | exact vP.refl _ | exact vP.none _ | apply vP.ite | refine vP.bind ?_ fun _ => ?_)
set_option maxHeartbeats 8000000 in
set_option maxRecDepth 100000 in
theorem xe.calls (k : Nat) (a0_0 : Int) (a0_1 : Int) (P0_2_ : Nat → Prop) (A0_2 : Option Addr) (c0_2 : Nat) (l0_2 : List Int) (r : List (List Int)) (w : World) (hs0_2 : Kd.V (Kd.int .u8) 5 w w.heap.size (fun k_ => P0_2_ k_) (.slice A0_2 l0_2.length c0_2) l0_2) (h : xe.f k a0_0 a0_1 l0_2 = some r) :
  Calls Tryd.prog 48 #[.agg #[.int .i64 a0_0, .int .i64 a0_1, .slice A0_2 l0_2.length c0_2]] w fun e w' => ∃ v0_ : Value, e = .returned (v0_) ∧ Kd.N (Kd.slice 5 (Kd.int .u8)) 22 w' w.heap.size (fun k_ => (P0_2_ k_ ∨ w.heap.size ≤ k_)) v0_ r ∧ Below w.heap.size w w' := by
 have hu48 := Tryd.underlying48
 have HO0_2 := Aside0.mk (show Kd.V (Kd.int .u8) 5 w w.heap.size (fun k_ => (P0_2_ k_ ∨ w.heap.size ≤ k_)) (.slice A0_2 l0_2.length c0_2) l0_2 from Kd.zK hs0_2 (fun k_ hk => .inl hk))
 have HB := Aside0.mk (Below.refl w.heap.size w)
 have H : (xe.l0 k ([] : List (List Int)) a0_1 0 a0_0 a0_1 l0_2) = some r := h
 clear h
 have H' := Aside0.mk H
 clear H
 go_enter Tryd.func48, Tryd.ntmps48
 go_wp2_with (first | ((with_reducible refine gd 1 rfl ?_); refine bx 1 #[.int .i64 a0_0, .int .i64 a0_1, .slice A0_2 l0_2.length c0_2] 48 rfl rfl ?_; intro gb275 hg w2 hbox hb; have n_ := aC (Kd.V_below (Kd.V_elderB (by (with_reducible repeat (first | apply Kd.zn | apply Kd.zk | apply Kd.zH)); exact HO0_2.out) gb275 (Nat.le_of_eq hg.symm)) hb) (aC (bs hb) (aC hbox (aC (gz hg) (aE (gz hg))))); clear HO0_2 HB; obtain ⟨HO0_2, HB, BK275, GW275, GE275⟩ := n_; clear hb hbox hg; obtain ⟨hcz3_0, hcz3_1, hcz3_2, hfz3_0, hfz3_1, hfz3_2⟩ := zo BK275.out))
 go_loopg [3, 7] k (fun kq v3 v7 w' => ∃ (x3_1 : List (List Int)) (x7_1 : Int), v7 = .int .i64 x7_1 ∧ Aside0 (xe.l0 kq x3_1 a0_1 x7_1 a0_0 a0_1 l0_2 = some r) ∧ Aside0 (kq ≤ k) ∧ Aside0 (Kd.N (Kd.slice 5 (Kd.int .u8)) 22 w' w.heap.size (fun k_ => (P0_2_ k_ ∨ w.heap.size ≤ k_) ∧ k_ ≠ gb275) v3 x3_1) ∧ Aside0 (Kd.V (Kd.int .u8) 5 w' w.heap.size (fun k_ => (P0_2_ k_ ∨ w.heap.size ≤ k_) ∧ some k_ ≠ (v3 : Value).ownBlock ∧ k_ ≠ gb275) (.slice A0_2 l0_2.length c0_2) l0_2) ∧ Aside0 (w'.heap[gb275]? = some (.cells #[.int .i64 a0_0, .int .i64 a0_1, (.slice A0_2 l0_2.length c0_2)] 48 (0, 0))) ∧ Aside0 (Below w.heap.size w w'))
 case atStart => exact ⟨(([] : List (List Int))), (0), rq, H', ⟨Nat.le_refl _⟩, ⟨by first | exact Kd.yZ _ _ _ _ _ | exact Kd.za _ _ _ _ _ | exact Kd.y9 _ _ _ _ _ | exact Kd.zb _ _ _ _ _ | exact Kd.yC _ _ _ _ _⟩, ⟨by (with_reducible repeat (first | apply Kd.zn | apply Kd.zk | apply Kd.zH)); exact Kd.zK HO0_2.out (fun _ hk => ⟨hk.1, ⟨(by simp [Value.ownBlock]), hk.2⟩⟩)⟩, ⟨bU BK275.out⟩, ⟨bl⟩⟩
 case round =>
  clear H'
  obtain ⟨x3_1, x7_1, rfl, HA, HK1, HO_3, HO_276002, BK275, HB⟩ := hrel
  cases gk with
  | zero => exact absurd HA.out (by simp [xe.l0])
  | succ k1 =>
   have H := HA.out
   clear HA
   simp only [xe.l0] at H
   rcases iL H with H1 | H1 <;> clear H <;> obtain ⟨H, c4b0⟩ := H1
   ·obtain ⟨ji5, hji5⟩ : ∃ j_ : Int, (wrap64 (x7_1 * a0_0)) = j_ := ⟨_, rfl⟩
    replace H : (if 0 ≤ (ji5) then (if (ji5) ≤ (wrap64 ((wrap64 (x7_1 + 1)) * a0_0)) then (if (wrap64 ((wrap64 (x7_1 + 1)) * a0_0)) ≤ (l0_2.length : Int) then (if x3_1.length < 5864062014805 then (xe.l0 k1 (x3_1 ++ [((l0_2.take ((wrap64 ((wrap64 (x7_1 + 1)) * a0_0)) : Int).toNat).drop ((ji5) : Int).toNat)]) a0_1 (wrap64 (x7_1 + 1)) a0_0 a0_1 l0_2) else (none)) else (none)) else (none)) else (none)) = some r := by first | (rw [hji5] at H; exact H) | (simp only [hji5] at H ⊢; exact H)
    have hji5w : (IntKind.i64.wrap (x7_1 * a0_0)) = ji5 := (xD _).trans hji5
    by_cases c6 : 0 ≤ (ji5)
    ·rw [if_pos c6] at H
     have c6b0 := eq_true c6
     have c6b1 := decide_eq_true c6
     clear c6
     by_cases c7 : (ji5) ≤ (wrap64 ((wrap64 (x7_1 + 1)) * a0_0))
     ·rw [if_pos c7] at H
      have c7b0 := eq_true c7
      have c7b1 := decide_eq_true c7
      by_cases c8 : (wrap64 ((wrap64 (x7_1 + 1)) * a0_0)) ≤ (l0_2.length : Int)
      ·rw [if_pos c8] at H
       have c8b0 := eq_true c8
       have c8b1 := decide_eq_true c8
       obtain ⟨y276, hy_⟩ : ∃ y_ : List Int, y_ = ((l0_2.take ((wrap64 ((wrap64 (x7_1 + 1)) * a0_0)) : Int).toNat).drop ((ji5) : Int).toNat) := ⟨_, rfl⟩
       replace H : (if x3_1.length < 5864062014805 then (xe.l0 k1 (x3_1 ++ [y276]) a0_1 (wrap64 (x7_1 + 1)) a0_0 a0_1 l0_2) else (none)) = some r := rh
       have Ny276 := aE hy_
       clear hy_
       by_cases c9 : x3_1.length < 5864062014805
       ·rw [if_pos c9] at H
        have LMc9 := Aside0.mk c9
        clear c9
        obtain ⟨y281, hy_⟩ : ∃ y_ : List (List Int), y_ = (x3_1 ++ [y276]) := ⟨_, rfl⟩
        replace H : (xe.l0 k1 y281 a0_1 (wrap64 (x7_1 + 1)) a0_0 a0_1 l0_2) = some r := rh
        have Ny281 := aE hy_
        clear hy_
        have H' := Aside0.mk H
        clear H
        obtain ⟨hcz10_0, hcz10_1, hcz10_2, hfz10_0, hfz10_1, hfz10_2⟩ := zo BK275.out
        have q11 : ((wrap64 ((wrap64 (x7_1 + 1)) * a0_0)) : Int) ≤ ((l0_2.length : Int) : Int) := dt
        obtain ⟨i011, hi011, _, hsz11, _⟩ := info_parts info5
        have hroom11 : l0_2.length ≤ c0_2 := (Kd.V_reads' HO_276002.out).2.1
        have hC11 : Kd.F (Kd.int .u8) _ _ A0_2 l0_2.length l0_2 := (Kd.V_at (base := w.heap.size) HO_276002.out).2.2
        have ql11 : ((ji5) : Int) ≤ ((wrap64 ((wrap64 (x7_1 + 1)) * a0_0)) : Int) := dt
        have q011 : (0 : Int) ≤ ((ji5) : Int) := dt
        have hcut11 := cut_mid (P := Tryd.prog) 22 5 .i64 .i64 Tryd.underlying22 hi011 1 hsz11 A0_2 l0_2.length c0_2 (ji5) (wrap64 ((wrap64 (x7_1 + 1)) * a0_0)) q011 ql11 q11 hroom11
        have hr11 := Kd.F_mid (lo := ((ji5) : Int).toNat) (hi := ((wrap64 ((wrap64 (x7_1 + 1)) * a0_0)) : Int).toNat) (c := c0_2) hC11 (by omega) (by omega) hroom11
        obtain ⟨A11, hA11⟩ : ∃ A1, A1 = (if c0_2 = ((ji5) : Int).toNat then A0_2 else (A0_2 : Option Addr).map (·.add (((ji5) : Int).toNat * 1))) := ⟨_, rfl⟩
        obtain ⟨c11, hc11⟩ : ∃ c1, c1 = c0_2 - ((ji5) : Int).toNat := ⟨_, rfl⟩
        have hy11 : y276.length = ((wrap64 ((wrap64 (x7_1 + 1)) * a0_0)) : Int).toNat - ((ji5) : Int).toNat := (by rw [Ny276.out, List.length_drop, List.length_take] <;> omega)
        rw [show ((l0_2).take ((wrap64 ((wrap64 (x7_1 + 1)) * a0_0)) : Int).toNat).drop ((ji5) : Int).toNat = y276 from Ny276.out.symm] at hr11
        replace hr11 : Kd.F (Kd.int .u8) _ _ A11 y276.length y276 := (by rw [hA11]; exact hr11)
        rw [← hy11, ← hA11, ← hc11] at hcut11
        have HO280 := Aside0.mk (show Kd.V (Kd.int .u8) 5 _ w.heap.size _ (.slice A11 y276.length c11) y276 from Kd.V_mk (by rw [hy11, hc11]; exact Nat.sub_le_sub_right (Nat.le_trans (by omega) hroom11) _) hr11)
        have HC280 := Aside0.mk (show y276.length ≤ c11 from by rw [hy11, hc11]; exact Nat.sub_le_sub_right (Nat.le_trans (by omega) hroom11) _)
        clear hr11 hC11 hroom11 hi011 hsz11 hc11
        have KY11 := Aside0.mk hy11
        have KA11 := Aside0.mk hA11
        clear hy11 hA11
        replace q11 := eq_true q11
        go_wp2_with (first | ((with_reducible refine xb (b := .append) (xs := #[.tmp 10, .tmp 23]) rfl ?_); at_builtin; refine Kd.N_append (Kd.slice 5 (Kd.int .u8)) (w0 := w) w.heap.size rfl (.tmp 10) (.tmp 23) 73 22 (.slice none 0 0) 24 rfl Tryd.underlying73 info22 rfl (by decide) (by omega) u3 x3_1 y276 [.slice A11 y276.length c11] (fun k_ => (P0_2_ k_ ∨ w.heap.size ≤ k_) ∧ k_ ≠ gb275) (fun k_ => ((fun k_ => (P0_2_ k_ ∨ w.heap.size ≤ k_) ∧ k_ ≠ gb275)) k_ ∧ some k_ ≠ (u3 : Value).ownBlock) rfl rfl ?aP (fun _ hk => hk) ?aF ?aO ?aB ?aS ?aL ?_; (case aP => exact (Kd.FK_slice_mk (Kd.V_reads' (Kd.zK (ok' := (fun k_ => ((fun k_ => (P0_2_ k_ ∨ w.heap.size ≤ k_) ∧ k_ ≠ gb275)) k_ ∧ some k_ ≠ (u3 : Value).ownBlock)) (HO280.out) (fun k_ hk => ⟨⟨hk.1, hk.2.2⟩, hk.2.1⟩))).2.1 (Kd.V_F (Kd.zK (ok' := (fun k_ => ((fun k_ => (P0_2_ k_ ∨ w.heap.size ≤ k_) ∧ k_ ≠ gb275)) k_ ∧ some k_ ≠ (u3 : Value).ownBlock)) (HO280.out) (fun k_ hk => ⟨⟨hk.1, hk.2.2⟩, hk.2.1⟩))))); (case aB => exact bl); (case aF => exact (fun k_ hk => ⟨(.inr (Nat.le_trans bz hk)), Kd.km (bU BK275.out) k_ hk⟩)); (case aO => exact (by (with_reducible repeat (first | apply Kd.zA | apply Kd.zC | apply Kd.z5)); exact HO_3.out)); (case aS => exact bz); (case aL => have := LMc9.out; omega); intro v282 w12 ho hb hg hat; rw [← Ny281.out] at ho; have n_ := aC (Kd.qi (ok := (fun k_ => (P0_2_ k_ ∨ w.heap.size ≤ k_) ∧ k_ ≠ gb275)) (by (with_reducible repeat (first | apply Kd.zn | apply Kd.zk | apply Kd.zH)); exact Kd.zK HO_276002.out (fun _ hk => ⟨⟨hk.1, hk.2.2⟩, hk.2.1⟩)) hg hat) (aC (xx (bU BK275.out) hg (Kd.N_ne HO_3.out BK275.out (by decide))) (aC (Kd.qi (ok := (fun k_ => (P0_2_ k_ ∨ w.heap.size ≤ k_) ∧ k_ ≠ gb275)) (by (with_reducible repeat (first | apply Kd.zn | apply Kd.zk | apply Kd.zH)); exact Kd.zK HO280.out (fun _ hk => ⟨⟨hk.1, hk.2.2⟩, hk.2.1⟩)) hg hat) (aC hb (aE ho)))); clear HO_276002 BK275 HO280 HB HO_3; obtain ⟨HO_276002, BK275, HO280, HB, HO283⟩ := n_; clear ho hb hg hat))
        go_roundg k1
        case measure => have := HK1.out; omega
        case rel => exact ⟨(y281), (wrap64 (x7_1 + 1)), rq, H', ⟨by have := HK1.out; omega⟩, ⟨by (with_reducible repeat (first | apply Kd.zA | apply Kd.zC | apply Kd.z5)); exact HO283.out⟩, ⟨by (with_reducible repeat (first | apply Kd.zn | apply Kd.zk | apply Kd.zH)); exact Kd.zK HO_276002.out (fun _ hk => ⟨hk.1.1, ⟨hk.2, hk.1.2⟩⟩)⟩, ⟨bU BK275.out⟩, ⟨bl⟩⟩
       ·rw [if_neg c9] at H
        exact absurd H (by simp)
      ·rw [if_neg c8] at H
       exact absurd H (by simp)
     ·rw [if_neg c7] at H
      exact absurd H (by simp)
    ·rw [if_neg c6] at H
     exact absurd H (by simp)
   ·obtain rfl := Option.some.inj H
    go_wp2
    go_ret
    exact ⟨_, re, by (with_reducible repeat (first | apply Kd.zA | apply Kd.zC | apply Kd.z5)); exact Kd.zY HO_3.out (fun _ hk => hk.1), bl⟩
end Go.Proofs.YtknclbodinfbeaaDoor.PRunsSame
