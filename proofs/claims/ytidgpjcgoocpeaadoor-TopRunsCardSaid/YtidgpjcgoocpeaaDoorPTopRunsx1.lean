-- printed (wip/tools/myprint.py)
import Derived.Test.YtidgpjcgoocpeaaDoorPTopRunsx0
namespace Go.Proofs.YtidgpjcgoocpeaaDoor.PTopRuns
open Go.RowKit Go.Proofs.YtidgpjcgoocpeaaDoorW.PrintWords Go.Proofs.YtidgpjcgoocpeaaDoorW.PrintLast Go.Proofs.YtidgpjcgoocpeaaDoorW.PrintMore
attribute [local go_sem] max2_int min2_int max_two min_two max_three min_three max_four min_four
set_option linter.unusedVariables false
set_option linter.unusedSimpArgs false
def incunableref06_IsSize.f (a0 : Int) (a1 : Int) : Option (Bool) := if a0 ≥ 0 then (if a0 ≤ 200 then (if a1 ≥ 0 then (if a1 ≤ 200 then (some (decide ((wrap64 (a0 * a1)) ≤ 8192))) else (some false)) else (some false)) else (some false)) else (some false)
set_option maxHeartbeats 8000000 in
set_option maxRecDepth 100000 in
theorem incunableref06_IsSize.calls (a0 : Int) (a1 : Int) (r : Bool) (w : World) (h : incunableref06_IsSize.f a0 a1 = some r) :
  Calls Tryd.prog 17 #[.int .i64 a0, .int .i64 a1] w fun e w' => e = .returned (.bool r) ∧ Drawn0 w w' := by
 have H := h
 unfold incunableref06_IsSize.f at H
 clear h
 rcases iL H with H1 | H1 <;> clear H <;> obtain ⟨H, c3b0⟩ := H1
 ·rcases iL H with H1 | H1 <;> clear H <;> obtain ⟨H, c4b0⟩ := H1
  ·rcases iL H with H1 | H1 <;> clear H <;> obtain ⟨H, c5b0⟩ := H1
   ·rcases iL H with H1 | H1 <;> clear H <;> obtain ⟨H, c6b0⟩ := H1
    ·obtain rfl := Option.some.inj H
     go_enter Tryd.func17, Tryd.ntmps17
     go_wp2
     go_ret
     exact ⟨by first | rfl | (simp; done) | (simp [*]; done), by repeat (first | exact Drawn0.refl _ | apply Drawn0.step)⟩
    ·obtain rfl := Option.some.inj H
     go_enter Tryd.func17, Tryd.ntmps17
     go_wp2
     go_ret
     exact ⟨by first | rfl | (simp; done) | (simp [*]; done), by repeat (first | exact Drawn0.refl _ | apply Drawn0.step)⟩
   ·obtain rfl := Option.some.inj H
    go_enter Tryd.func17, Tryd.ntmps17
    go_wp2
    go_ret
    exact ⟨by first | rfl | (simp; done) | (simp [*]; done), by repeat (first | exact Drawn0.refl _ | apply Drawn0.step)⟩
  ·obtain rfl := Option.some.inj H
   go_enter Tryd.func17, Tryd.ntmps17
   go_wp2
   go_ret
   exact ⟨by first | rfl | (simp; done) | (simp [*]; done), by repeat (first | exact Drawn0.refl _ | apply Drawn0.step)⟩
 ·obtain rfl := Option.some.inj H
  go_enter Tryd.func17, Tryd.ntmps17
  go_wp2
  go_ret
  exact ⟨by first | rfl | (simp; done) | (simp [*]; done), by repeat (first | exact Drawn0.refl _ | apply Drawn0.step)⟩
def incunableref06_IsRow.l0 : Nat → List Int → Int → Int → Option (Bool)
 | 0, _, _, _ => none
 | k + 1, x5, x6, x7 => if x7 < x6 then (if 0 ≤ x7 then (if x7 < (x5.length : Int) then (if (rd x5 x7) > 1 then (some false) else (incunableref06_IsRow.l0 k x5 x6 (wrap64 (x7 + 1)))) else (none)) else (none)) else (some true)
def incunableref06_IsRow.f (k : Nat) (l0 : List Int) : Option (Bool) := incunableref06_IsRow.l0 k l0 (l0.length : Int) 0
theorem incunableref06_IsRow.mono_l : ∀ k, (∀ y0 y1 y2, LeO (incunableref06_IsRow.l0 k y0 y1 y2) (incunableref06_IsRow.l0 (k + 1) y0 y1 y2))
 | 0 => fun _ _ _ r h => by simp [incunableref06_IsRow.l0] at h
 | k + 1 => by
  have ih0 := incunableref06_IsRow.mono_l k
  ·intro y0 y1 y2
   unfold incunableref06_IsRow.l0
   repeat' first
   | (with_reducible exact ih0 _ _ _)
   | (with_reducible first | exact LeO.refl _ | exact LeO.none _ | refine LeO.ite ?_ ?_ | refine LeO.bind ?_ (fun _ => ?_))
theorem incunableref06_IsRow.mono : ∀ a0 k, LeO (incunableref06_IsRow.f k a0) (incunableref06_IsRow.f (k + 1) a0) := by
 intro a0 k
 have ih0 := incunableref06_IsRow.mono_l k
 unfold incunableref06_IsRow.f
 repeat' first
   | (with_reducible exact ih0 _ _ _)
   | (with_reducible first | exact LeO.refl _ | exact LeO.none _ | refine LeO.ite ?_ ?_ | refine LeO.bind ?_ (fun _ => ?_))
set_option maxHeartbeats 8000000 in
set_option maxRecDepth 100000 in
theorem incunableref06_IsRow.calls (k : Nat) (A0 : Option Addr) (c0 : Nat) (l0 : List Int) (r : Bool) (w : World) (hr0 : Kd.C (Kd.int .u8) w A0 l0.length l0) (hc0 : l0.length ≤ c0) (h : incunableref06_IsRow.f k l0 = some r) :
  Calls Tryd.prog 18 #[.slice A0 l0.length c0] w fun e w' => e = .returned (.bool r) ∧ Drawn0 w w' := by
 have HR0 := Aside0.mk hr0
 have HC0 := Aside0.mk hc0
 clear hr0 hc0
 have H : (incunableref06_IsRow.l0 k l0 (l0.length : Int) 0) = some r := h
 clear h
 have H' := Aside0.mk H
 clear H
 go_enter Tryd.func18, Tryd.ntmps18
 go_wp2
 go_loopg [7] k (fun kq v7 w' => ∃ (x7_1 : Int), v7 = .int .i64 x7_1 ∧ Aside0 (incunableref06_IsRow.l0 kq l0 (l0.length : Int) x7_1 = some r) ∧ Aside0 (kq ≤ k) ∧ Drawn0 w w')
 case atStart => exact ⟨(0), rq, H', ⟨Nat.le_refl _⟩, by repeat (first | exact Drawn0.refl _ | apply Drawn0.step)⟩
 case round =>
  clear H'
  obtain ⟨x7_1, rfl, HA, HK1, ⟨m1, rfl⟩⟩ := hrel
  cases gk with
  | zero => exact absurd HA.out (by simp [incunableref06_IsRow.l0])
  | succ k1 =>
   have H := HA.out
   clear HA
   simp only [incunableref06_IsRow.l0] at H
   rcases iL H with H1 | H1 <;> clear H <;> obtain ⟨H, c2b0⟩ := H1
   ·by_cases c3 : 0 ≤ x7_1
    ·rw [if_pos c3] at H
     have c3b0 := decide_eq_true c3
     clear c3
     by_cases c4 : x7_1 < (l0.length : Int)
     ·rw [if_pos c4] at H
      have c4b0 := decide_eq_true c4
      clear c4
      rcases iL H with H1 | H1 <;> clear H <;> obtain ⟨H, c5b0⟩ := H1
      ·obtain rfl := Option.some.inj H
       have p101 : 0 ≤ (x7_1 : Int) := dt
       have q101 : x7_1 < (l0.length : Int) := dt
       obtain ⟨ad101, e101, hx101_0⟩ := Kd.at_int HR0.out x7_1 p101 q101
       cases e101
       replace p101 := eq_true p101
       replace q101 := eq_true q101
       go_wp2
       go_ret
       exact ⟨by first | rfl | (simp; done) | (simp [*]; done), by repeat (first | exact Drawn0.refl _ | apply Drawn0.step)⟩
      ·have H' := Aside0.mk H
       clear H
       have p101 : 0 ≤ (x7_1 : Int) := dt
       have q101 : x7_1 < (l0.length : Int) := dt
       obtain ⟨ad101, e101, hx101_0⟩ := Kd.at_int HR0.out x7_1 p101 q101
       cases e101
       replace p101 := eq_true p101
       replace q101 := eq_true q101
       go_wp2
       go_roundg k1
       case measure => have := HK1.out; omega
       case rel => exact ⟨(wrap64 (x7_1 + 1)), rq, H', ⟨by have := HK1.out; omega⟩, by repeat (first | exact Drawn0.refl _ | apply Drawn0.step)⟩
     ·rw [if_neg c4] at H
      exact absurd H (by simp)
    ·rw [if_neg c3] at H
     exact absurd H (by simp)
   ·obtain rfl := Option.some.inj H
    go_wp2
    go_ret
    exact ⟨by first | rfl | (simp; done) | (simp [*]; done), by repeat (first | exact Drawn0.refl _ | apply Drawn0.step)⟩
def incunableref06_IsBitmap.f (k : Nat) (a0_0 : Int) (a0_1 : Int) (l0_2 : List Int) : Option (Bool) := (incunableref06_IsSize.f a0_0 a0_1).bind fun t103 => (if t103 = true then (if (l0_2.length : Int) = (wrap64 (a0_0 * a0_1)) then ((incunableref06_IsRow.f k l0_2).bind fun t104 => (some t104)) else (some false)) else (some false))
theorem incunableref06_IsBitmap.mono : ∀ a0 a1 a2 k, LeO (incunableref06_IsBitmap.f k a0 a1 a2) (incunableref06_IsBitmap.f (k + 1) a0 a1 a2) := by
 intro a0 a1 a2 k
 unfold incunableref06_IsBitmap.f
 repeat' first
   | (with_reducible exact incunableref06_IsRow.mono _ _)
   | (with_reducible first | exact LeO.refl _ | exact LeO.none _ | refine LeO.ite ?_ ?_ | refine LeO.bind ?_ (fun _ => ?_))
set_option maxHeartbeats 8000000 in
set_option maxRecDepth 100000 in
theorem incunableref06_IsBitmap.calls (k : Nat) (a0_0 : Int) (a0_1 : Int) (A0_2 : Option Addr) (c0_2 : Nat) (l0_2 : List Int) (r : Bool) (w : World) (hr0_2 : Kd.C (Kd.int .u8) w A0_2 l0_2.length l0_2) (hc0_2 : l0_2.length ≤ c0_2) (h : incunableref06_IsBitmap.f k a0_0 a0_1 l0_2 = some r) :
  Calls Tryd.prog 4 #[.agg #[.int .i64 a0_0, .int .i64 a0_1, .slice A0_2 l0_2.length c0_2]] w fun e w' => e = .returned (.bool r) ∧ Below w.heap.size w w' := by
 have hu24 := Tryd.underlying24
 have HR0_2 := Aside0.mk hr0_2
 have HC0_2 := Aside0.mk hc0_2
 clear hr0_2 hc0_2
 have HB := Aside0.mk (Below.refl w.heap.size w)
 have H := h
 unfold incunableref06_IsBitmap.f at H
 clear h
 obtain ⟨t103, A2, H⟩ := oB H
 try dsimp only at H
 by_cases c3 : t103 = true
 ·subst c3
  rw [if_pos rfl] at H
  rcases iE H with H1 | H1 <;> clear H <;> obtain ⟨H, c4b0, c4b1, c4⟩ := H1
  ·obtain ⟨t104, A5, H⟩ := oB H
   try dsimp only at H
   obtain rfl := Option.some.inj H
   go_enter Tryd.func4, Tryd.ntmps4
   go_wp2_with (first | ((with_reducible refine gd 1 rfl ?_); (try (refine gate_guard (by rfl) ?_; dsimp only)); refine bx 1 #[.int .i64 a0_0, .int .i64 a0_1, .slice A0_2 l0_2.length c0_2] 24 rfl rfl ?_; intro gb102 hg w6 hbox hb; have n_ := aC (bs hb) (aC hbox (aC (gz hg) (aE (gz hg)))); clear HB; obtain ⟨HB, BK102, GW102, GE102⟩ := n_; clear hb hbox hg; obtain ⟨hcz7_0, hcz7_1, hcz7_2, hfz7_0, hfz7_1, hfz7_2⟩ := cz3f BK102.out) | (refine gF 17 7 Tryd.func17 #[.int .i64 a0_0, .int .i64 a0_1] rfl rfl ?_; (with_reducible refine (incunableref06_IsSize.calls a0_0 a0_1 true _ A2.out).mono ?_); rintro e w' ⟨rfl, ⟨nd, rfl⟩⟩; refine ⟨_, rfl, ?_⟩) | (go_at_call 18; (with_reducible refine (incunableref06_IsRow.calls k _ _ l0_2 t104 _ ?side1 ?side2 A5.out).mono ?_); (case side1 => exact cU (Kd.C_below HR0_2.out bl)); (case side2 => exact HC0_2.out); rintro e w' ⟨rfl, ⟨nd, rfl⟩⟩))
   go_ret
   exact ⟨re, bl⟩
  ·obtain rfl := Option.some.inj H
   go_enter Tryd.func4, Tryd.ntmps4
   go_wp2_with (first | ((with_reducible refine gd 1 rfl ?_); (try (refine gate_guard (by rfl) ?_; dsimp only)); refine bx 1 #[.int .i64 a0_0, .int .i64 a0_1, .slice A0_2 l0_2.length c0_2] 24 rfl rfl ?_; intro gb102 hg w8 hbox hb; have n_ := aC (bs hb) (aC hbox (aC (gz hg) (aE (gz hg)))); clear HB; obtain ⟨HB, BK102, GW102, GE102⟩ := n_; clear hb hbox hg; obtain ⟨hcz9_0, hcz9_1, hcz9_2, hfz9_0, hfz9_1, hfz9_2⟩ := cz3f BK102.out) | (refine gF 17 7 Tryd.func17 #[.int .i64 a0_0, .int .i64 a0_1] rfl rfl ?_; (with_reducible refine (incunableref06_IsSize.calls a0_0 a0_1 true _ A2.out).mono ?_); rintro e w' ⟨rfl, ⟨nd, rfl⟩⟩; refine ⟨_, rfl, ?_⟩))
   go_ret
   exact ⟨re, bl⟩
 ·replace c3 := Bool.eq_false_iff.mpr c3
  subst c3
  rw [if_neg Bool.false_ne_true] at H
  obtain rfl := Option.some.inj H
  go_enter Tryd.func4, Tryd.ntmps4
  go_wp2_with (first | ((with_reducible refine gd 1 rfl ?_); (try (refine gate_guard (by rfl) ?_; dsimp only)); refine bx 1 #[.int .i64 a0_0, .int .i64 a0_1, .slice A0_2 l0_2.length c0_2] 24 rfl rfl ?_; intro gb102 hg w10 hbox hb; have n_ := aC (bs hb) (aC hbox (aC (gz hg) (aE (gz hg)))); clear HB; obtain ⟨HB, BK102, GW102, GE102⟩ := n_; clear hb hbox hg; obtain ⟨hcz11_0, hcz11_1, hcz11_2, hfz11_0, hfz11_1, hfz11_2⟩ := cz3f BK102.out) | (refine gF 17 7 Tryd.func17 #[.int .i64 a0_0, .int .i64 a0_1] rfl rfl ?_; (with_reducible refine (incunableref06_IsSize.calls a0_0 a0_1 false _ A2.out).mono ?_); rintro e w' ⟨rfl, ⟨nd, rfl⟩⟩; refine ⟨_, rfl, ?_⟩))
  go_ret
  exact ⟨re, bl⟩
def prefix_lines.l0 : Nat → List (S103) → List (S97) → Int → Int → Option ((List (S103)))
 | 0, _, _, _, _ => none
 | k + 1, x3, x6, x7, x8 => if x8 < x7 then (if 0 ≤ x8 then (if x8 < (x6.length : Int) then (if x3.length < 4398046511104 then (prefix_lines.l0 k (x3 ++ [(⟨(rd_T97 x6 x8).f0, (rd_T97 x6 x8).f1, (rd_T97 x6 x8).f2, (rd_T97 x6 x8).f3⟩ : S103)]) x6 x7 (wrap64 (x8 + 1))) else (none)) else (none)) else (none)) else (some x3)
def prefix_lines.f (k : Nat) (l0 : List (S97)) : Option ((List (S103))) := prefix_lines.l0 k ([] : List (S103)) l0 (l0.length : Int) 0
theorem prefix_lines.mono_l : ∀ k, (∀ y0 y1 y2 y3, LeO (prefix_lines.l0 k y0 y1 y2 y3) (prefix_lines.l0 (k + 1) y0 y1 y2 y3))
 | 0 => fun _ _ _ _ r h => by simp [prefix_lines.l0] at h
 | k + 1 => by
  have ih0 := prefix_lines.mono_l k
  ·intro y0 y1 y2 y3
   unfold prefix_lines.l0
   repeat' first
   | (with_reducible exact ih0 _ _ _ _)
   | (with_reducible first | exact LeO.refl _ | exact LeO.none _ | refine LeO.ite ?_ ?_ | refine LeO.bind ?_ (fun _ => ?_))
theorem prefix_lines.mono : ∀ a0 k, LeO (prefix_lines.f k a0) (prefix_lines.f (k + 1) a0) := by
 intro a0 k
 have ih0 := prefix_lines.mono_l k
 unfold prefix_lines.f
 repeat' first
   | (with_reducible exact ih0 _ _ _ _)
   | (with_reducible first | exact LeO.refl _ | exact LeO.none _ | refine LeO.ite ?_ ?_ | refine LeO.bind ?_ (fun _ => ?_))
set_option maxHeartbeats 8000000 in
set_option maxRecDepth 100000 in
theorem prefix_lines.calls (k : Nat) (A0 : Option Addr) (c0 : Nat) (l0 : List (S97)) (r : List (S103)) (w : World) (hr0 : Kd.C k97 w A0 l0.length l0) (hc0 : l0.length ≤ c0) (h : prefix_lines.f k l0 = some r) :
  Calls Tryd.prog 52 #[.slice A0 l0.length c0] w fun e w' => ∃ v0_ : Value, e = .returned (v0_) ∧ Kd.R k103 103 w' w.heap.size (fun _ => True) v0_ r ∧ Below w.heap.size w w' := by
 have hu97 := Tryd.underlying97
 have hu103 := Tryd.underlying103
 have HR0 := Aside0.mk hr0
 have HC0 := Aside0.mk hc0
 clear hr0 hc0
 have HB := Aside0.mk (Below.refl w.heap.size w)
 have H : (prefix_lines.l0 k ([] : List (S103)) l0 (l0.length : Int) 0) = some r := h
 clear h
 have H' := Aside0.mk H
 clear H
 go_enter Tryd.func52, Tryd.ntmps52
 go_wp2
 go_loopg [3, 8] k (fun kq v3 v8 w' => ∃ (x3_1 : List (S103)) (x8_1 : Int), v8 = .int .i64 x8_1 ∧ Aside0 (prefix_lines.l0 kq x3_1 l0 (l0.length : Int) x8_1 = some r) ∧ Aside0 (kq ≤ k) ∧ Aside0 (Kd.R k103 103 w' w.heap.size (fun _ => True) v3 x3_1) ∧ Aside0 (Below w.heap.size w w'))
 case atStart => exact ⟨(([] : List (S103))), (0), rq, H', ⟨Nat.le_refl _⟩, ⟨by first | exact Kd.R_nil _ _ _ _ _ | exact Kd.N_nil _ _ _ _ _ | exact Kd.V_nil _ _ _ _ _ | exact Kd.Q_nil _ _ _ _ _ | exact Kd.S_nil _ _ _ _ _⟩, ⟨bl⟩⟩
 case round =>
  clear H'
  obtain ⟨x3_1, x8_1, rfl, HA, HK1, HO_3, HB⟩ := hrel
  cases gk with
  | zero => exact absurd HA.out (by simp [prefix_lines.l0])
  | succ k1 =>
   have H := HA.out
   clear HA
   simp only [prefix_lines.l0] at H
   rcases iL H with H1 | H1 <;> clear H <;> obtain ⟨H, c2b0⟩ := H1
   ·by_cases c3 : 0 ≤ x8_1
    ·rw [if_pos c3] at H
     have c3b0 := decide_eq_true c3
     clear c3
     by_cases c4 : x8_1 < (l0.length : Int)
     ·rw [if_pos c4] at H
      have c4b0 := decide_eq_true c4
      clear c4
      by_cases c5 : x3_1.length < 4398046511104
      ·rw [if_pos c5] at H
       have LMc5 := Aside0.mk c5
       clear c5
       obtain ⟨y107, hy_⟩ : ∃ y_ : List (S103), y_ = (x3_1 ++ [(⟨(rd_T97 l0 x8_1).f0, (rd_T97 l0 x8_1).f1, (rd_T97 l0 x8_1).f2, (rd_T97 l0 x8_1).f3⟩ : S103)]) := ⟨_, rfl⟩
       replace H : (prefix_lines.l0 k1 y107 l0 (l0.length : Int) (wrap64 (x8_1 + 1))) = some r := rh
       have Ny107 := aE hy_
       clear hy_
       have H' := Aside0.mk H
       clear H
       have p105 : 0 ≤ (x8_1 : Int) := dt
       have q105 : x8_1 < (l0.length : Int) := dt
       obtain ⟨ad105, e105, hx105_0, hx105_1, hx105_2, hx105_3⟩ := at_T97 HR0.out x8_1 p105 q105
       cases e105
       replace hx105_0 := hcB HB.out hx105_0
       replace hx105_1 := hcB HB.out hx105_1
       replace hx105_2 := hcB HB.out hx105_2
       replace hx105_3 := hcB HB.out hx105_3
       replace p105 := eq_true p105
       replace q105 := eq_true q105
       go_wp2_with (first | ((with_reducible refine gd 5 rfl ?_); refine bx 5 #[.int .i64 0, .int .i64 0, .int .i64 0, .int .i64 0] 97 rfl rfl ?_; intro gb106 hg w6 hbox hb; have n_ := aC (Kd.R_below (rU HO_3.out) hb) (aC (bs hb) (aC hbox (aC (gz hg) (aE (gz hg))))); clear HO_3 HB; obtain ⟨HO_3, HB, BK106, GW106, GE106⟩ := n_; clear hb hbox hg; obtain ⟨hcz7_0, hcz7_1, hcz7_2, hcz7_3, hfz7_0, hfz7_1, hfz7_2, hfz7_3⟩ := cz4f BK106.out) | ((with_reducible refine gate_builtin (b := .append) (xs := #[.tmp 12, .tmp 22]) rfl ?_); at_builtin; refine Kd.R_append k103 (w0 := w) w.heap.size rfl (.tmp 12) (.tmp 22) 67 103 (.agg #[(.int .i64 0), (.int .i64 0), (.int .i64 0), (.int .i64 0)]) 32 rfl Tryd.underlying67 info103 rfl (by decide) (by omega) u3 x3_1 (⟨(rd_T97 l0 x8_1).f0, (rd_T97 l0 x8_1).f1, (rd_T97 l0 x8_1).f2, (rd_T97 l0 x8_1).f3⟩ : S103) [.int .i64 ((rd_T97 l0 x8_1).f0), .int .i64 ((rd_T97 l0 x8_1).f1), .int .i64 ((rd_T97 l0 x8_1).f2), .int .i64 ((rd_T97 l0 x8_1).f3)] (fun _ => True) (fun _ => False) rfl (by first | (go_simp; done) | (go_simp; rfl)) ?aP (fun _ hk => hk.elim) ?aF ?aO ?aB ?aS ?aL ?_; (case aP => exact k103_mkM _ _ _ (⟨(rd_T97 l0 x8_1).f0, (rd_T97 l0 x8_1).f1, (rd_T97 l0 x8_1).f2, (rd_T97 l0 x8_1).f3⟩ : S103)); (case aB => exact bl); (case aF => exact (fun _ _ => trivial)); (case aO => exact (rU (Kd.R_mono (Kd.R_far (p := ⟨gb106, 3, none⟩) (Kd.R_far (p := ⟨gb106, 2, none⟩) (Kd.R_far (p := ⟨gb106, 1, none⟩) (Kd.R_far (p := ⟨gb106, 0, none⟩) (Kd.R_types HO_3.out BK106.out (by decide)) (fun _ hk => hk.2) (.int .i64 ((rd_T97 l0 x8_1).f0))) (fun _ hk => hk.2) (.int .i64 ((rd_T97 l0 x8_1).f1))) (fun _ hk => hk.2) (.int .i64 ((rd_T97 l0 x8_1).f2))) (fun _ hk => hk.2) (.int .i64 ((rd_T97 l0 x8_1).f3))) (fun _ hk => trivial)))); (case aS => exact bz); (case aL => have := LMc5.out; omega); intro v108 w8 ho hb hg hat; rw [← Ny107.out] at ho; have n_ := aC (blk_grown (g := gb106) (o := .cells #[.int .i64 ((rd_T97 l0 x8_1).f0), .int .i64 ((rd_T97 l0 x8_1).f1), .int .i64 ((rd_T97 l0 x8_1).f2), .int .i64 ((rd_T97 l0 x8_1).f3)] 97 (0, 0)) (by (with_reducible repeat (first | refine blk_drewN ?_ _ | refine blk_drew ?_ | refine blk_alloc ?_ _)); refine blk_put (cs := #[.int .i64 ((rd_T97 l0 x8_1).f0), .int .i64 ((rd_T97 l0 x8_1).f1), .int .i64 ((rd_T97 l0 x8_1).f2), .int .i64 0]) ?_ 3 _ rfl; (with_reducible repeat (first | refine blk_drewN ?_ _ | refine blk_drew ?_ | refine blk_alloc ?_ _)); refine blk_put (cs := #[.int .i64 ((rd_T97 l0 x8_1).f0), .int .i64 ((rd_T97 l0 x8_1).f1), .int .i64 0, .int .i64 0]) ?_ 2 _ rfl; (with_reducible repeat (first | refine blk_drewN ?_ _ | refine blk_drew ?_ | refine blk_alloc ?_ _)); refine blk_put (cs := #[.int .i64 ((rd_T97 l0 x8_1).f0), .int .i64 0, .int .i64 0, .int .i64 0]) ?_ 1 _ rfl; (with_reducible repeat (first | refine blk_drewN ?_ _ | refine blk_drew ?_ | refine blk_alloc ?_ _)); refine blk_put (cs := #[.int .i64 0, .int .i64 0, .int .i64 0, .int .i64 0]) ?_ 0 _ rfl; (with_reducible repeat (first | refine blk_drewN ?_ _ | refine blk_drew ?_ | refine blk_alloc ?_ _)); exact BK106.out) hg (Kd.R_ne HO_3.out BK106.out (by decide))) (aC hb (aE ho)); clear BK106 HB HO_3; obtain ⟨BK106, HB, HO109⟩ := n_; clear ho hb hg hat))
       go_roundg k1
       case measure => have := HK1.out; omega
       case rel => exact ⟨(y107), (wrap64 (x8_1 + 1)), rq, H', ⟨by have := HK1.out; omega⟩, ⟨rU HO109.out⟩, ⟨bl⟩⟩
      ·rw [if_neg c5] at H
       exact absurd H (by simp)
     ·rw [if_neg c4] at H
      exact absurd H (by simp)
    ·rw [if_neg c3] at H
     exact absurd H (by simp)
   ·obtain rfl := Option.some.inj H
    go_wp2
    go_ret
    exact ⟨_, re, rU HO_3.out, bl⟩
def prefix_Standard.f (k : Nat) (a0 : Int) : Option ((List (S103)) × Int) := if a0 = 0 then ((prefix_lines.f k (([(⟨1, 0, 0, 0⟩ : S97), (⟨2, 1, 1, 0⟩ : S97), (⟨3, 3, 3, 0⟩ : S97), (⟨4, 5, 11, 0⟩ : S97), (⟨5, 8, 43, 0⟩ : S97), (⟨5, 20, 299, 0⟩ : S97)] : List (S97)))).bind fun t113 => (some (t113, 0))) else (if a0 = 1 then ((prefix_lines.f k (([(⟨1, 2, 0, 0⟩ : S97), (⟨2, 4, 4, 0⟩ : S97), (⟨3, 8, 20, 0⟩ : S97), (⟨4, 20, (-1), 1⟩ : S97), (⟨4, 0, 0, 2⟩ : S97)] : List (S97)))).bind fun t119 => (some (t119, 0))) else (if a0 = 2 then ((prefix_lines.f k (([(⟨1, 0, 0, 0⟩ : S97), (⟨3, 2, 1, 0⟩ : S97), (⟨3, 2, (-1), 1⟩ : S97), (⟨3, 20, 5, 0⟩ : S97), (⟨3, 20, (-5), 1⟩ : S97)] : List (S97)))).bind fun t125 => (some (t125, 0))) else (some (([] : List (S103)), 2))))
theorem prefix_Standard.mono : ∀ a0 k, LeO (prefix_Standard.f k a0) (prefix_Standard.f (k + 1) a0) := by
 intro a0 k
 unfold prefix_Standard.f
 repeat' first
   | (with_reducible exact prefix_lines.mono _ _)
   | (with_reducible first | exact LeO.refl _ | exact LeO.none _ | refine LeO.ite ?_ ?_ | refine LeO.bind ?_ (fun _ => ?_))
set_option maxHeartbeats 8000000 in
set_option maxRecDepth 100000 in
theorem prefix_Standard.calls (k : Nat) (a0 : Int) (r1 : List (S103)) (r2 : Int) (w : World) (h : prefix_Standard.f k a0 = some (r1, r2)) :
  Calls Tryd.prog 36 #[.int .i64 a0] w fun e w' => ∃ v0_ : Value, e = .returned (.tuple #[v0_, .int .i64 r2]) ∧ Kd.R k103 103 w' w.heap.size (fun _ => True) v0_ r1 ∧ Below w.heap.size w w' := by
 have hu97 := Tryd.underlying97
 have HB := Aside0.mk (Below.refl w.heap.size w)
 have H := h
 unfold prefix_Standard.f at H
 clear h
 rcases iE H with H1 | H1 <;> clear H <;> obtain ⟨H, c2b0, c2b1, c2⟩ := H1
 ·obtain ⟨y110, hy_⟩ : ∃ y_ : List (S97), y_ = (([(⟨1, 0, 0, 0⟩ : S97), (⟨2, 1, 1, 0⟩ : S97), (⟨3, 3, 3, 0⟩ : S97), (⟨4, 5, 11, 0⟩ : S97), (⟨5, 8, 43, 0⟩ : S97), (⟨5, 20, 299, 0⟩ : S97)] : List (S97))) := ⟨_, rfl⟩
  replace H : ((prefix_lines.f k y110).bind fun t113 => (some (t113, 0))) = some (r1, r2) := rh
  have Ny110 := aE hy_
  clear hy_
  obtain ⟨t113, A3, H⟩ := oB H
  try dsimp only at H
  simp only [Option.some.injEq, Prod.mk.injEq] at H
  obtain ⟨rfl, rfl⟩ := H
  go_enter Tryd.func36, Tryd.ntmps36
  go_wp2_with (first | ((with_reducible refine gd 13 rfl ?_); refine Kd.R_lit k97 _ 97 ?hg (N := 13) ?hd (xs := ([(⟨1, 0, 0, 0⟩ : S97), (⟨2, 1, 1, 0⟩ : S97), (⟨3, 3, 3, 0⟩ : S97), (⟨4, 5, 11, 0⟩ : S97), (⟨5, 8, 43, 0⟩ : S97), (⟨5, 20, 299, 0⟩ : S97)] : List (S97))) (inner := [.int .i64 1, .int .i64 0, .int .i64 0, .int .i64 0, .int .i64 2, .int .i64 1, .int .i64 1, .int .i64 0, .int .i64 3, .int .i64 3, .int .i64 3, .int .i64 0, .int .i64 4, .int .i64 5, .int .i64 11, .int .i64 0, .int .i64 5, .int .i64 8, .int .i64 43, .int .i64 0, .int .i64 5, .int .i64 20, .int .i64 299, .int .i64 0]) (ok := fun _ => True) (okp := fun _ => True) ?hr ?hp (fun _ hk => hk) trivial (Below.refl _ _) (Nat.le_refl _) (by simp) ?_; (case hd => rfl); (case hg => rfl); (case hr => first | (go_simp; done) | (go_simp; rfl)); (case hp => exact (Reps.c4 (show Kd.M k97 _ _ _ (⟨1, 0, 0, 0⟩ : S97) [.int .i64 1, .int .i64 0, .int .i64 0, .int .i64 0] from (k97_mkM _ _ _ (⟨1, 0, 0, 0⟩ : S97) )) (Reps.c4 (show Kd.M k97 _ _ _ (⟨2, 1, 1, 0⟩ : S97) [.int .i64 2, .int .i64 1, .int .i64 1, .int .i64 0] from (k97_mkM _ _ _ (⟨2, 1, 1, 0⟩ : S97) )) (Reps.c4 (show Kd.M k97 _ _ _ (⟨3, 3, 3, 0⟩ : S97) [.int .i64 3, .int .i64 3, .int .i64 3, .int .i64 0] from (k97_mkM _ _ _ (⟨3, 3, 3, 0⟩ : S97) )) (Reps.c4 (show Kd.M k97 _ _ _ (⟨4, 5, 11, 0⟩ : S97) [.int .i64 4, .int .i64 5, .int .i64 11, .int .i64 0] from (k97_mkM _ _ _ (⟨4, 5, 11, 0⟩ : S97) )) (Reps.c4 (show Kd.M k97 _ _ _ (⟨5, 8, 43, 0⟩ : S97) [.int .i64 5, .int .i64 8, .int .i64 43, .int .i64 0] from (k97_mkM _ _ _ (⟨5, 8, 43, 0⟩ : S97) )) (Reps.c4 (show Kd.M k97 _ _ _ (⟨5, 20, 299, 0⟩ : S97) [.int .i64 5, .int .i64 20, .int .i64 299, .int .i64 0] from (k97_mkM _ _ _ (⟨5, 20, 299, 0⟩ : S97) )) (Reps.none _ _)))))))); intro v111 w4 ho5 hb hg_ hnew_; clear hg_ hnew_; (first | rw [← Ny110.out] at ho5 | (simp only [Int.reduceToNat] at ho5; rw [← Ny110.out] at ho5)); have n_ := aC (Kd.R_lower ho5 bz) (aE (bs hb)); clear HB; obtain ⟨HO112, HB⟩ := n_; clear hb ho5; obtain ⟨Ao6, co6, eo6⟩ := Kd.R_slice HO112.out; subst eo6) | (refine gF 52 14 Tryd.func52 #[.slice Ao6 y110.length co6] rfl rfl ?_; (with_reducible refine (prefix_lines.calls k _ _ y110 t113 _ ?side1 ?side2 A3.out).mono ?_); (case side1 => exact cU (Kd.R_reads' HO112.out).2.2); (case side2 => exact (Kd.R_reads' HO112.out).2.1); rintro e w7 ⟨v114, rfl, ho0, hb⟩; refine ⟨_, rfl, ?_⟩; have n_ := aC (Kd.R_below (rU HO112.out) hb) (aC (Kd.R_lower ho0 bz) (aE (bs hb))); clear HO112 HB; obtain ⟨HO112, HO115, HB⟩ := n_))
  go_ret2
  exact ⟨_, re, rU HO115.out, bl⟩
 ·rcases iE H with H1 | H1 <;> clear H <;> obtain ⟨H, c8b0, c8b1, c8⟩ := H1
  ·obtain ⟨y116, hy_⟩ : ∃ y_ : List (S97), y_ = (([(⟨1, 2, 0, 0⟩ : S97), (⟨2, 4, 4, 0⟩ : S97), (⟨3, 8, 20, 0⟩ : S97), (⟨4, 20, (-1), 1⟩ : S97), (⟨4, 0, 0, 2⟩ : S97)] : List (S97))) := ⟨_, rfl⟩
   replace H : ((prefix_lines.f k y116).bind fun t119 => (some (t119, 0))) = some (r1, r2) := rh
   have Ny116 := aE hy_
   clear hy_
   obtain ⟨t119, A9, H⟩ := oB H
   try dsimp only at H
   simp only [Option.some.injEq, Prod.mk.injEq] at H
   obtain ⟨rfl, rfl⟩ := H
   go_enter Tryd.func36, Tryd.ntmps36
   go_wp2_with (first | ((with_reducible refine gd 22 rfl ?_); refine Kd.R_lit k97 _ 97 ?hg (N := 22) ?hd (xs := ([(⟨1, 2, 0, 0⟩ : S97), (⟨2, 4, 4, 0⟩ : S97), (⟨3, 8, 20, 0⟩ : S97), (⟨4, 20, (-1), 1⟩ : S97), (⟨4, 0, 0, 2⟩ : S97)] : List (S97))) (inner := [.int .i64 1, .int .i64 2, .int .i64 0, .int .i64 0, .int .i64 2, .int .i64 4, .int .i64 4, .int .i64 0, .int .i64 3, .int .i64 8, .int .i64 20, .int .i64 0, .int .i64 4, .int .i64 20, .int .i64 (-1), .int .i64 1, .int .i64 4, .int .i64 0, .int .i64 0, .int .i64 2]) (ok := fun _ => True) (okp := fun _ => True) ?hr ?hp (fun _ hk => hk) trivial (Below.refl _ _) (Nat.le_refl _) (by simp) ?_; (case hd => rfl); (case hg => rfl); (case hr => first | (go_simp; done) | (go_simp; rfl)); (case hp => exact (Reps.c4 (show Kd.M k97 _ _ _ (⟨1, 2, 0, 0⟩ : S97) [.int .i64 1, .int .i64 2, .int .i64 0, .int .i64 0] from (k97_mkM _ _ _ (⟨1, 2, 0, 0⟩ : S97) )) (Reps.c4 (show Kd.M k97 _ _ _ (⟨2, 4, 4, 0⟩ : S97) [.int .i64 2, .int .i64 4, .int .i64 4, .int .i64 0] from (k97_mkM _ _ _ (⟨2, 4, 4, 0⟩ : S97) )) (Reps.c4 (show Kd.M k97 _ _ _ (⟨3, 8, 20, 0⟩ : S97) [.int .i64 3, .int .i64 8, .int .i64 20, .int .i64 0] from (k97_mkM _ _ _ (⟨3, 8, 20, 0⟩ : S97) )) (Reps.c4 (show Kd.M k97 _ _ _ (⟨4, 20, (-1), 1⟩ : S97) [.int .i64 4, .int .i64 20, .int .i64 (-1), .int .i64 1] from (k97_mkM _ _ _ (⟨4, 20, (-1), 1⟩ : S97) )) (Reps.c4 (show Kd.M k97 _ _ _ (⟨4, 0, 0, 2⟩ : S97) [.int .i64 4, .int .i64 0, .int .i64 0, .int .i64 2] from (k97_mkM _ _ _ (⟨4, 0, 0, 2⟩ : S97) )) (Reps.none _ _))))))); intro v117 w10 ho11 hb hg_ hnew_; clear hg_ hnew_; (first | rw [← Ny116.out] at ho11 | (simp only [Int.reduceToNat] at ho11; rw [← Ny116.out] at ho11)); have n_ := aC (Kd.R_lower ho11 bz) (aE (bs hb)); clear HB; obtain ⟨HO118, HB⟩ := n_; clear hb ho11; obtain ⟨Ao12, co12, eo12⟩ := Kd.R_slice HO118.out; subst eo12) | (refine gF 52 23 Tryd.func52 #[.slice Ao12 y116.length co12] rfl rfl ?_; (with_reducible refine (prefix_lines.calls k _ _ y116 t119 _ ?side1 ?side2 A9.out).mono ?_); (case side1 => exact cU (Kd.R_reads' HO118.out).2.2); (case side2 => exact (Kd.R_reads' HO118.out).2.1); rintro e w13 ⟨v120, rfl, ho0, hb⟩; refine ⟨_, rfl, ?_⟩; have n_ := aC (Kd.R_below (rU HO118.out) hb) (aC (Kd.R_lower ho0 bz) (aE (bs hb))); clear HO118 HB; obtain ⟨HO118, HO121, HB⟩ := n_))
   go_ret2
   exact ⟨_, re, rU HO121.out, bl⟩
  ·rcases iE H with H1 | H1 <;> clear H <;> obtain ⟨H, c14b0, c14b1, c14⟩ := H1
   ·obtain ⟨y122, hy_⟩ : ∃ y_ : List (S97), y_ = (([(⟨1, 0, 0, 0⟩ : S97), (⟨3, 2, 1, 0⟩ : S97), (⟨3, 2, (-1), 1⟩ : S97), (⟨3, 20, 5, 0⟩ : S97), (⟨3, 20, (-5), 1⟩ : S97)] : List (S97))) := ⟨_, rfl⟩
    replace H : ((prefix_lines.f k y122).bind fun t125 => (some (t125, 0))) = some (r1, r2) := rh
    have Ny122 := aE hy_
    clear hy_
    obtain ⟨t125, A15, H⟩ := oB H
    try dsimp only at H
    simp only [Option.some.injEq, Prod.mk.injEq] at H
    obtain ⟨rfl, rfl⟩ := H
    go_enter Tryd.func36, Tryd.ntmps36
    go_wp2_with (first | ((with_reducible refine gd 31 rfl ?_); refine Kd.R_lit k97 _ 97 ?hg (N := 31) ?hd (xs := ([(⟨1, 0, 0, 0⟩ : S97), (⟨3, 2, 1, 0⟩ : S97), (⟨3, 2, (-1), 1⟩ : S97), (⟨3, 20, 5, 0⟩ : S97), (⟨3, 20, (-5), 1⟩ : S97)] : List (S97))) (inner := [.int .i64 1, .int .i64 0, .int .i64 0, .int .i64 0, .int .i64 3, .int .i64 2, .int .i64 1, .int .i64 0, .int .i64 3, .int .i64 2, .int .i64 (-1), .int .i64 1, .int .i64 3, .int .i64 20, .int .i64 5, .int .i64 0, .int .i64 3, .int .i64 20, .int .i64 (-5), .int .i64 1]) (ok := fun _ => True) (okp := fun _ => True) ?hr ?hp (fun _ hk => hk) trivial (Below.refl _ _) (Nat.le_refl _) (by simp) ?_; (case hd => rfl); (case hg => rfl); (case hr => first | (go_simp; done) | (go_simp; rfl)); (case hp => exact (Reps.c4 (show Kd.M k97 _ _ _ (⟨1, 0, 0, 0⟩ : S97) [.int .i64 1, .int .i64 0, .int .i64 0, .int .i64 0] from (k97_mkM _ _ _ (⟨1, 0, 0, 0⟩ : S97) )) (Reps.c4 (show Kd.M k97 _ _ _ (⟨3, 2, 1, 0⟩ : S97) [.int .i64 3, .int .i64 2, .int .i64 1, .int .i64 0] from (k97_mkM _ _ _ (⟨3, 2, 1, 0⟩ : S97) )) (Reps.c4 (show Kd.M k97 _ _ _ (⟨3, 2, (-1), 1⟩ : S97) [.int .i64 3, .int .i64 2, .int .i64 (-1), .int .i64 1] from (k97_mkM _ _ _ (⟨3, 2, (-1), 1⟩ : S97) )) (Reps.c4 (show Kd.M k97 _ _ _ (⟨3, 20, 5, 0⟩ : S97) [.int .i64 3, .int .i64 20, .int .i64 5, .int .i64 0] from (k97_mkM _ _ _ (⟨3, 20, 5, 0⟩ : S97) )) (Reps.c4 (show Kd.M k97 _ _ _ (⟨3, 20, (-5), 1⟩ : S97) [.int .i64 3, .int .i64 20, .int .i64 (-5), .int .i64 1] from (k97_mkM _ _ _ (⟨3, 20, (-5), 1⟩ : S97) )) (Reps.none _ _))))))); intro v123 w16 ho17 hb hg_ hnew_; clear hg_ hnew_; (first | rw [← Ny122.out] at ho17 | (simp only [Int.reduceToNat] at ho17; rw [← Ny122.out] at ho17)); have n_ := aC (Kd.R_lower ho17 bz) (aE (bs hb)); clear HB; obtain ⟨HO124, HB⟩ := n_; clear hb ho17; obtain ⟨Ao18, co18, eo18⟩ := Kd.R_slice HO124.out; subst eo18) | (refine gF 52 32 Tryd.func52 #[.slice Ao18 y122.length co18] rfl rfl ?_; (with_reducible refine (prefix_lines.calls k _ _ y122 t125 _ ?side1 ?side2 A15.out).mono ?_); (case side1 => exact cU (Kd.R_reads' HO124.out).2.2); (case side2 => exact (Kd.R_reads' HO124.out).2.1); rintro e w19 ⟨v126, rfl, ho0, hb⟩; refine ⟨_, rfl, ?_⟩; have n_ := aC (Kd.R_below (rU HO124.out) hb) (aC (Kd.R_lower ho0 bz) (aE (bs hb))); clear HO124 HB; obtain ⟨HO124, HO127, HB⟩ := n_))
    go_ret2
    exact ⟨_, re, rU HO127.out, bl⟩
   ·simp only [Option.some.injEq, Prod.mk.injEq] at H
    obtain ⟨rfl, rfl⟩ := H
    go_enter Tryd.func36, Tryd.ntmps36
    go_wp2
    go_ret2
    exact ⟨_, re, by first | exact Kd.R_nil _ _ _ _ _ | exact Kd.N_nil _ _ _ _ _ | exact Kd.V_nil _ _ _ _ _ | exact Kd.Q_nil _ _ _ _ _ | exact Kd.S_nil _ _ _ _ _, bl⟩
def prefix_isLine.f (a0_0 : Int) (a0_1 : Int) (a0_2 : Int) (a0_3 : Int) : Option (Bool) := if a0_0 < 0 then (some false) else (if a0_0 > 15 then (some false) else (if a0_1 < 0 then (some false) else (if a0_1 > 20 then (some false) else (if a0_2 < (-1048576) then (some false) else (if a0_2 > 1048576 then (some false) else (if a0_3 < 0 then (some false) else (if a0_3 > 2 then (some false) else (if a0_3 = 2 then (if a0_1 = 0 then (some (a0_2 == 0)) else (some false)) else (some true)))))))))
set_option maxHeartbeats 8000000 in
set_option maxRecDepth 100000 in
theorem prefix_isLine.calls (a0_0 : Int) (a0_1 : Int) (a0_2 : Int) (a0_3 : Int) (r : Bool) (w : World) (h : prefix_isLine.f a0_0 a0_1 a0_2 a0_3 = some r) :
  Calls Tryd.prog 65 #[.agg #[.int .i64 a0_0, .int .i64 a0_1, .int .i64 a0_2, .int .i64 a0_3]] w fun e w' => e = .returned (.bool r) ∧ Below w.heap.size w w' := by
 have hu103 := Tryd.underlying103
 have HB := Aside0.mk (Below.refl w.heap.size w)
 have H := h
 unfold prefix_isLine.f at H
 clear h
 rcases iL H with H1 | H1 <;> clear H <;> obtain ⟨H, c2b0⟩ := H1
 ·obtain rfl := Option.some.inj H
  go_enter Tryd.func65, Tryd.ntmps65
  go_wp2_with (first | ((with_reducible refine gd 1 rfl ?_); refine bx 1 #[.int .i64 a0_0, .int .i64 a0_1, .int .i64 a0_2, .int .i64 a0_3] 103 rfl rfl ?_; intro gb128 hg w3 hbox hb; have n_ := aC (bs hb) (aC hbox (aC (gz hg) (aE (gz hg)))); clear HB; obtain ⟨HB, BK128, GW128, GE128⟩ := n_; clear hb hbox hg; obtain ⟨hcz4_0, hcz4_1, hcz4_2, hcz4_3, hfz4_0, hfz4_1, hfz4_2, hfz4_3⟩ := cz4f BK128.out))
  go_ret
  exact ⟨re, bl⟩
 ·rcases iL H with H1 | H1 <;> clear H <;> obtain ⟨H, c5b0⟩ := H1
  ·obtain rfl := Option.some.inj H
   go_enter Tryd.func65, Tryd.ntmps65
   go_wp2_with (first | ((with_reducible refine gd 1 rfl ?_); refine bx 1 #[.int .i64 a0_0, .int .i64 a0_1, .int .i64 a0_2, .int .i64 a0_3] 103 rfl rfl ?_; intro gb128 hg w6 hbox hb; have n_ := aC (bs hb) (aC hbox (aC (gz hg) (aE (gz hg)))); clear HB; obtain ⟨HB, BK128, GW128, GE128⟩ := n_; clear hb hbox hg; obtain ⟨hcz7_0, hcz7_1, hcz7_2, hcz7_3, hfz7_0, hfz7_1, hfz7_2, hfz7_3⟩ := cz4f BK128.out))
   go_ret
   exact ⟨re, bl⟩
  ·rcases iL H with H1 | H1 <;> clear H <;> obtain ⟨H, c8b0⟩ := H1
   ·obtain rfl := Option.some.inj H
    go_enter Tryd.func65, Tryd.ntmps65
    go_wp2_with (first | ((with_reducible refine gd 1 rfl ?_); refine bx 1 #[.int .i64 a0_0, .int .i64 a0_1, .int .i64 a0_2, .int .i64 a0_3] 103 rfl rfl ?_; intro gb128 hg w9 hbox hb; have n_ := aC (bs hb) (aC hbox (aC (gz hg) (aE (gz hg)))); clear HB; obtain ⟨HB, BK128, GW128, GE128⟩ := n_; clear hb hbox hg; obtain ⟨hcz10_0, hcz10_1, hcz10_2, hcz10_3, hfz10_0, hfz10_1, hfz10_2, hfz10_3⟩ := cz4f BK128.out))
    go_ret
    exact ⟨re, bl⟩
   ·rcases iL H with H1 | H1 <;> clear H <;> obtain ⟨H, c11b0⟩ := H1
    ·obtain rfl := Option.some.inj H
     go_enter Tryd.func65, Tryd.ntmps65
     go_wp2_with (first | ((with_reducible refine gd 1 rfl ?_); refine bx 1 #[.int .i64 a0_0, .int .i64 a0_1, .int .i64 a0_2, .int .i64 a0_3] 103 rfl rfl ?_; intro gb128 hg w12 hbox hb; have n_ := aC (bs hb) (aC hbox (aC (gz hg) (aE (gz hg)))); clear HB; obtain ⟨HB, BK128, GW128, GE128⟩ := n_; clear hb hbox hg; obtain ⟨hcz13_0, hcz13_1, hcz13_2, hcz13_3, hfz13_0, hfz13_1, hfz13_2, hfz13_3⟩ := cz4f BK128.out))
     go_ret
     exact ⟨re, bl⟩
    ·rcases iL H with H1 | H1 <;> clear H <;> obtain ⟨H, c14b0⟩ := H1
     ·obtain rfl := Option.some.inj H
      go_enter Tryd.func65, Tryd.ntmps65
      go_wp2_with (first | ((with_reducible refine gd 1 rfl ?_); refine bx 1 #[.int .i64 a0_0, .int .i64 a0_1, .int .i64 a0_2, .int .i64 a0_3] 103 rfl rfl ?_; intro gb128 hg w15 hbox hb; have n_ := aC (bs hb) (aC hbox (aC (gz hg) (aE (gz hg)))); clear HB; obtain ⟨HB, BK128, GW128, GE128⟩ := n_; clear hb hbox hg; obtain ⟨hcz16_0, hcz16_1, hcz16_2, hcz16_3, hfz16_0, hfz16_1, hfz16_2, hfz16_3⟩ := cz4f BK128.out))
      go_ret
      exact ⟨re, bl⟩
     ·rcases iL H with H1 | H1 <;> clear H <;> obtain ⟨H, c17b0⟩ := H1
      ·obtain rfl := Option.some.inj H
       go_enter Tryd.func65, Tryd.ntmps65
       go_wp2_with (first | ((with_reducible refine gd 1 rfl ?_); refine bx 1 #[.int .i64 a0_0, .int .i64 a0_1, .int .i64 a0_2, .int .i64 a0_3] 103 rfl rfl ?_; intro gb128 hg w18 hbox hb; have n_ := aC (bs hb) (aC hbox (aC (gz hg) (aE (gz hg)))); clear HB; obtain ⟨HB, BK128, GW128, GE128⟩ := n_; clear hb hbox hg; obtain ⟨hcz19_0, hcz19_1, hcz19_2, hcz19_3, hfz19_0, hfz19_1, hfz19_2, hfz19_3⟩ := cz4f BK128.out))
       go_ret
       exact ⟨re, bl⟩
      ·rcases iL H with H1 | H1 <;> clear H <;> obtain ⟨H, c20b0⟩ := H1
       ·obtain rfl := Option.some.inj H
        go_enter Tryd.func65, Tryd.ntmps65
        go_wp2_with (first | ((with_reducible refine gd 1 rfl ?_); refine bx 1 #[.int .i64 a0_0, .int .i64 a0_1, .int .i64 a0_2, .int .i64 a0_3] 103 rfl rfl ?_; intro gb128 hg w21 hbox hb; have n_ := aC (bs hb) (aC hbox (aC (gz hg) (aE (gz hg)))); clear HB; obtain ⟨HB, BK128, GW128, GE128⟩ := n_; clear hb hbox hg; obtain ⟨hcz22_0, hcz22_1, hcz22_2, hcz22_3, hfz22_0, hfz22_1, hfz22_2, hfz22_3⟩ := cz4f BK128.out))
        go_ret
        exact ⟨re, bl⟩
       ·rcases iL H with H1 | H1 <;> clear H <;> obtain ⟨H, c23b0⟩ := H1
        ·obtain rfl := Option.some.inj H
         go_enter Tryd.func65, Tryd.ntmps65
         go_wp2_with (first | ((with_reducible refine gd 1 rfl ?_); refine bx 1 #[.int .i64 a0_0, .int .i64 a0_1, .int .i64 a0_2, .int .i64 a0_3] 103 rfl rfl ?_; intro gb128 hg w24 hbox hb; have n_ := aC (bs hb) (aC hbox (aC (gz hg) (aE (gz hg)))); clear HB; obtain ⟨HB, BK128, GW128, GE128⟩ := n_; clear hb hbox hg; obtain ⟨hcz25_0, hcz25_1, hcz25_2, hcz25_3, hfz25_0, hfz25_1, hfz25_2, hfz25_3⟩ := cz4f BK128.out))
         go_ret
         exact ⟨re, bl⟩
        ·rcases iE H with H1 | H1 <;> clear H <;> obtain ⟨H, c26b0, c26b1, c26⟩ := H1
         ·rcases iE H with H1 | H1 <;> clear H <;> obtain ⟨H, c27b0, c27b1, c27⟩ := H1
          ·obtain rfl := Option.some.inj H
           go_enter Tryd.func65, Tryd.ntmps65
           go_wp2_with (first | ((with_reducible refine gd 1 rfl ?_); refine bx 1 #[.int .i64 a0_0, .int .i64 a0_1, .int .i64 a0_2, .int .i64 a0_3] 103 rfl rfl ?_; intro gb128 hg w28 hbox hb; have n_ := aC (bs hb) (aC hbox (aC (gz hg) (aE (gz hg)))); clear HB; obtain ⟨HB, BK128, GW128, GE128⟩ := n_; clear hb hbox hg; obtain ⟨hcz29_0, hcz29_1, hcz29_2, hcz29_3, hfz29_0, hfz29_1, hfz29_2, hfz29_3⟩ := cz4f BK128.out))
           go_ret
           exact ⟨re, bl⟩
          ·obtain rfl := Option.some.inj H
           go_enter Tryd.func65, Tryd.ntmps65
           go_wp2_with (first | ((with_reducible refine gd 1 rfl ?_); refine bx 1 #[.int .i64 a0_0, .int .i64 a0_1, .int .i64 a0_2, .int .i64 a0_3] 103 rfl rfl ?_; intro gb128 hg w30 hbox hb; have n_ := aC (bs hb) (aC hbox (aC (gz hg) (aE (gz hg)))); clear HB; obtain ⟨HB, BK128, GW128, GE128⟩ := n_; clear hb hbox hg; obtain ⟨hcz31_0, hcz31_1, hcz31_2, hcz31_3, hfz31_0, hfz31_1, hfz31_2, hfz31_3⟩ := cz4f BK128.out))
           go_ret
           exact ⟨re, bl⟩
         ·obtain rfl := Option.some.inj H
          go_enter Tryd.func65, Tryd.ntmps65
          go_wp2_with (first | ((with_reducible refine gd 1 rfl ?_); refine bx 1 #[.int .i64 a0_0, .int .i64 a0_1, .int .i64 a0_2, .int .i64 a0_3] 103 rfl rfl ?_; intro gb128 hg w32 hbox hb; have n_ := aC (bs hb) (aC hbox (aC (gz hg) (aE (gz hg)))); clear HB; obtain ⟨HB, BK128, GW128, GE128⟩ := n_; clear hb hbox hg; obtain ⟨hcz33_0, hcz33_1, hcz33_2, hcz33_3, hfz33_0, hfz33_1, hfz33_2, hfz33_3⟩ := cz4f BK128.out))
          go_ret
          exact ⟨re, bl⟩
def prefix_weight.l0 : Nat → Int → Int → Int → List (S103) → Int → Int → Option (Int × Int × Int)
 | 0, _, _, _, _, _, _ => none
 | k + 1, x2, x3, x4, x7, x8, x9 => if x9 < x8 then (if 0 ≤ x9 then (if x9 < (x7.length : Int) then (if ((rd_T103 x7 x9).f0) = 0 then (prefix_weight.l0 k x2 x3 x4 x7 x8 (wrap64 (x9 + 1))) else (if 0 ≤ (wrap64 (15 - ((rd_T103 x7 x9).f0))) then (if ((rd_T103 x7 x9).f3) = 2 then (prefix_weight.l0 k (wrap64 (x2 + (shl .i64 1 (wrap64 (15 - ((rd_T103 x7 x9).f0)))))) (wrap64 (x3 + 1)) (wrap64 (x4 + 1)) x7 x8 (wrap64 (x9 + 1))) else (prefix_weight.l0 k (wrap64 (x2 + (shl .i64 1 (wrap64 (15 - ((rd_T103 x7 x9).f0)))))) (wrap64 (x3 + 1)) x4 x7 x8 (wrap64 (x9 + 1)))) else (none))) else (none)) else (none)) else (some (x2, x3, x4))
def prefix_weight.f (k : Nat) (l0 : List (S103)) : Option (Int × Int × Int) := prefix_weight.l0 k 0 0 0 l0 (l0.length : Int) 0
theorem prefix_weight.mono_l : ∀ k, (∀ y0 y1 y2 y3 y4 y5, LeO (prefix_weight.l0 k y0 y1 y2 y3 y4 y5) (prefix_weight.l0 (k + 1) y0 y1 y2 y3 y4 y5))
 | 0 => fun _ _ _ _ _ _ r h => by simp [prefix_weight.l0] at h
 | k + 1 => by
  have ih0 := prefix_weight.mono_l k
  ·intro y0 y1 y2 y3 y4 y5
   unfold prefix_weight.l0
   repeat' first
   | (with_reducible exact ih0 _ _ _ _ _ _)
   | (with_reducible first | exact LeO.refl _ | exact LeO.none _ | refine LeO.ite ?_ ?_ | refine LeO.bind ?_ (fun _ => ?_))
theorem prefix_weight.mono : ∀ a0 k, LeO (prefix_weight.f k a0) (prefix_weight.f (k + 1) a0) := by
 intro a0 k
 have ih0 := prefix_weight.mono_l k
 unfold prefix_weight.f
 repeat' first
   | (with_reducible exact ih0 _ _ _ _ _ _)
   | (with_reducible first | exact LeO.refl _ | exact LeO.none _ | refine LeO.ite ?_ ?_ | refine LeO.bind ?_ (fun _ => ?_))
set_option maxHeartbeats 8000000 in
set_option maxRecDepth 100000 in
theorem prefix_weight.calls (k : Nat) (A0 : Option Addr) (c0 : Nat) (l0 : List (S103)) (r1 : Int) (r2 : Int) (r3 : Int) (w : World) (hr0 : Kd.C k103 w A0 l0.length l0) (hc0 : l0.length ≤ c0) (h : prefix_weight.f k l0 = some (r1, r2, r3)) :
  Calls Tryd.prog 66 #[.slice A0 l0.length c0] w fun e w' => e = .returned (.tuple #[.int .i64 r1, .int .i64 r2, .int .i64 r3]) ∧ Below w.heap.size w w' := by
 have hu103 := Tryd.underlying103
 have HR0 := Aside0.mk hr0
 have HC0 := Aside0.mk hc0
 clear hr0 hc0
 have HB := Aside0.mk (Below.refl w.heap.size w)
 have H : (prefix_weight.l0 k 0 0 0 l0 (l0.length : Int) 0) = some (r1, r2, r3) := h
 clear h
 have H' := Aside0.mk H
 clear H
 go_enter Tryd.func66, Tryd.ntmps66
 go_wp2
 go_loopg [2, 3, 4, 9] k (fun kq v2 v3 v4 v9 w' => ∃ (x2_1 : Int) (x3_1 : Int) (x4_1 : Int) (x9_1 : Int), v2 = .int .i64 x2_1 ∧ v3 = .int .i64 x3_1 ∧ v4 = .int .i64 x4_1 ∧ v9 = .int .i64 x9_1 ∧ Aside0 (prefix_weight.l0 kq x2_1 x3_1 x4_1 l0 (l0.length : Int) x9_1 = some (r1, r2, r3)) ∧ Aside0 (kq ≤ k) ∧ Aside0 (Below w.heap.size w w'))
 case atStart => exact ⟨(0), (0), (0), (0), rq, rq, rq, rq, H', ⟨Nat.le_refl _⟩, ⟨bl⟩⟩
 case round =>
  clear H'
  obtain ⟨x2_1, x3_1, x4_1, x9_1, rfl, rfl, rfl, rfl, HA, HK1, HB⟩ := hrel
  cases gk with
  | zero => exact absurd HA.out (by simp [prefix_weight.l0])
  | succ k1 =>
   have H := HA.out
   clear HA
   simp only [prefix_weight.l0] at H
   rcases iL H with H1 | H1 <;> clear H <;> obtain ⟨H, c2b0⟩ := H1
   ·by_cases c3 : 0 ≤ x9_1
    ·rw [if_pos c3] at H
     have c3b0 := decide_eq_true c3
     clear c3
     by_cases c4 : x9_1 < (l0.length : Int)
     ·rw [if_pos c4] at H
      have c4b0 := decide_eq_true c4
      clear c4
      rcases iE H with H1 | H1 <;> clear H <;> obtain ⟨H, c5b0, c5b1, c5⟩ := H1
      ·have H' := Aside0.mk H
       clear H
       have p129 : 0 ≤ (x9_1 : Int) := dt
       have q129 : x9_1 < (l0.length : Int) := dt
       obtain ⟨ad129, e129, hx129_0, hx129_1, hx129_2, hx129_3⟩ := at_T103 HR0.out x9_1 p129 q129
       cases e129
       replace hx129_0 := hcB HB.out hx129_0
       replace hx129_1 := hcB HB.out hx129_1
       replace hx129_2 := hcB HB.out hx129_2
       replace hx129_3 := hcB HB.out hx129_3
       replace p129 := eq_true p129
       replace q129 := eq_true q129
       go_wp2_with (first | ((with_reducible refine gd 6 rfl ?_); refine bx 6 #[.int .i64 0, .int .i64 0, .int .i64 0, .int .i64 0] 103 rfl rfl ?_; intro gb130 hg w6 hbox hb; have n_ := aC (bs hb) (aC hbox (aC (gz hg) (aE (gz hg)))); clear HB; obtain ⟨HB, BK130, GW130, GE130⟩ := n_; clear hb hbox hg; obtain ⟨hcz7_0, hcz7_1, hcz7_2, hcz7_3, hfz7_0, hfz7_1, hfz7_2, hfz7_3⟩ := cz4f BK130.out))
       go_roundg k1
       case measure => have := HK1.out; omega
       case rel => exact ⟨(x2_1), (x3_1), (x4_1), (wrap64 (x9_1 + 1)), rq, rq, rq, rq, H', ⟨by have := HK1.out; omega⟩, ⟨bl⟩⟩
      ·obtain ⟨ji8, hji8⟩ : ∃ j_ : Int, (wrap64 (15 - ((rd_T103 l0 x9_1).f0))) = j_ := ⟨_, rfl⟩
       replace H : (if 0 ≤ (ji8) then (if ((rd_T103 l0 x9_1).f3) = 2 then (prefix_weight.l0 k1 (wrap64 (x2_1 + (shl .i64 1 (ji8)))) (wrap64 (x3_1 + 1)) (wrap64 (x4_1 + 1)) l0 (l0.length : Int) (wrap64 (x9_1 + 1))) else (prefix_weight.l0 k1 (wrap64 (x2_1 + (shl .i64 1 (ji8)))) (wrap64 (x3_1 + 1)) x4_1 l0 (l0.length : Int) (wrap64 (x9_1 + 1)))) else (none)) = some (r1, r2, r3) := by first | (rw [hji8] at H; exact H) | (simp only [hji8] at H ⊢; exact H)
       have hji8w : (IntKind.i64.wrap (15 - ((rd_T103 l0 x9_1).f0))) = ji8 := (i64_w _).trans hji8
       by_cases c9 : 0 ≤ (ji8)
       ·rw [if_pos c9] at H
        have c9b0 := eq_true c9
        have c9b1 := decide_eq_true c9
        clear c9
        obtain ⟨ji10, hji10⟩ : ∃ j_ : Int, (shl .i64 1 (ji8)) = j_ := ⟨_, rfl⟩
        replace H : (if ((rd_T103 l0 x9_1).f3) = 2 then (prefix_weight.l0 k1 (wrap64 (x2_1 + (ji10))) (wrap64 (x3_1 + 1)) (wrap64 (x4_1 + 1)) l0 (l0.length : Int) (wrap64 (x9_1 + 1))) else (prefix_weight.l0 k1 (wrap64 (x2_1 + (ji10))) (wrap64 (x3_1 + 1)) x4_1 l0 (l0.length : Int) (wrap64 (x9_1 + 1)))) = some (r1, r2, r3) := by first | (rw [hji10] at H; exact H) | (simp only [hji10] at H ⊢; exact H)
        have hji10_ : (IntKind.i64.wrap (1 * 2 ^ min (ji8).toNat 64)) = ji10 := hji10
        have hji10z : (ji8) ≤ 64 → (IntKind.i64.wrap (1 * 2 ^ (ji8).toNat)) = ji10 := shl_small hji10
        have hji10u : (IntKind.i64.wrap (2 ^ min (ji8).toNat 64)) = ji10 := by have h_ := hji10_; rw [Int.one_mul] at h_; exact h_
        have hji10v : (ji8) ≤ 64 → (IntKind.i64.wrap (2 ^ (ji8).toNat)) = ji10 := fun hle_ => by have h_ := hji10z hle_; rw [Int.one_mul] at h_; exact h_
        have hji10y : (wrap64 (1 * 2 ^ min (ji8).toNat 64)) = ji10 := (i64_w _).symm.trans hji10_
        have hji10x : (ji8) ≤ 64 → (wrap64 (1 * 2 ^ (ji8).toNat)) = ji10 := fun h_ => (i64_w _).symm.trans (hji10z h_)
        rcases iE H with H1 | H1 <;> clear H <;> obtain ⟨H, c11b0, c11b1, c11⟩ := H1
        ·have H' := Aside0.mk H
         clear H
         have p129 : 0 ≤ (x9_1 : Int) := dt
         have q129 : x9_1 < (l0.length : Int) := dt
         obtain ⟨ad129, e129, hx129_0, hx129_1, hx129_2, hx129_3⟩ := at_T103 HR0.out x9_1 p129 q129
         cases e129
         replace hx129_0 := hcB HB.out hx129_0
         replace hx129_1 := hcB HB.out hx129_1
         replace hx129_2 := hcB HB.out hx129_2
         replace hx129_3 := hcB HB.out hx129_3
         replace p129 := eq_true p129
         replace q129 := eq_true q129
         go_wp2_with (first | ((with_reducible refine gd 6 rfl ?_); refine bx 6 #[.int .i64 0, .int .i64 0, .int .i64 0, .int .i64 0] 103 rfl rfl ?_; intro gb130 hg w12 hbox hb; have n_ := aC (bs hb) (aC hbox (aC (gz hg) (aE (gz hg)))); clear HB; obtain ⟨HB, BK130, GW130, GE130⟩ := n_; clear hb hbox hg; obtain ⟨hcz13_0, hcz13_1, hcz13_2, hcz13_3, hfz13_0, hfz13_1, hfz13_2, hfz13_3⟩ := cz4f BK130.out))
         go_roundg k1
         case measure => have := HK1.out; omega
         case rel => exact ⟨(wrap64 (x2_1 + (ji10))), (wrap64 (x3_1 + 1)), (wrap64 (x4_1 + 1)), (wrap64 (x9_1 + 1)), (by first | rfl | (simp; done) | (simp only [← hji10] <;> (first | rfl | simp)) | (simp [*]; done)), rq, rq, rq, H', ⟨by have := HK1.out; omega⟩, ⟨bl⟩⟩
        ·have H' := Aside0.mk H
         clear H
         have p129 : 0 ≤ (x9_1 : Int) := dt
         have q129 : x9_1 < (l0.length : Int) := dt
         obtain ⟨ad129, e129, hx129_0, hx129_1, hx129_2, hx129_3⟩ := at_T103 HR0.out x9_1 p129 q129
         cases e129
         replace hx129_0 := hcB HB.out hx129_0
         replace hx129_1 := hcB HB.out hx129_1
         replace hx129_2 := hcB HB.out hx129_2
         replace hx129_3 := hcB HB.out hx129_3
         replace p129 := eq_true p129
         replace q129 := eq_true q129
         go_wp2_with (first | ((with_reducible refine gd 6 rfl ?_); refine bx 6 #[.int .i64 0, .int .i64 0, .int .i64 0, .int .i64 0] 103 rfl rfl ?_; intro gb130 hg w14 hbox hb; have n_ := aC (bs hb) (aC hbox (aC (gz hg) (aE (gz hg)))); clear HB; obtain ⟨HB, BK130, GW130, GE130⟩ := n_; clear hb hbox hg; obtain ⟨hcz15_0, hcz15_1, hcz15_2, hcz15_3, hfz15_0, hfz15_1, hfz15_2, hfz15_3⟩ := cz4f BK130.out))
         go_roundg k1
         case measure => have := HK1.out; omega
         case rel => exact ⟨(wrap64 (x2_1 + (ji10))), (wrap64 (x3_1 + 1)), (x4_1), (wrap64 (x9_1 + 1)), (by first | rfl | (simp; done) | (simp only [← hji10] <;> (first | rfl | simp)) | (simp [*]; done)), rq, rq, rq, H', ⟨by have := HK1.out; omega⟩, ⟨bl⟩⟩
       ·rw [if_neg c9] at H
        exact absurd H (by simp)
     ·rw [if_neg c4] at H
      exact absurd H (by simp)
    ·rw [if_neg c3] at H
     exact absurd H (by simp)
   ·simp only [Option.some.injEq, Prod.mk.injEq] at H
    obtain ⟨rfl, rfl, rfl⟩ := H
    go_wp2
    go_ret3
    exact ⟨re, bl⟩
end Go.Proofs.YtidgpjcgoocpeaaDoor.PTopRuns
