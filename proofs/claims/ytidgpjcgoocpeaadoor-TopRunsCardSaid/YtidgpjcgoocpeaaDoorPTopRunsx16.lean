-- printed (wip/tools/myprint.py)
import Derived.Test.YtidgpjcgoocpeaaDoorPTopRunsx0
namespace Go.Proofs.YtidgpjcgoocpeaaDoor.PTopRuns
open Go.RowKit Go.Proofs.YtidgpjcgoocpeaaDoorW.PrintWords Go.Proofs.YtidgpjcgoocpeaaDoorW.PrintLast Go.Proofs.YtidgpjcgoocpeaaDoorW.PrintMore
attribute [local go_sem] max2_int min2_int max_two min_two max_three min_three max_four min_four
set_option linter.unusedVariables false
set_option linter.unusedSimpArgs false
mutual
def incunableref06_SameBitmap.j0 : Nat → Bool → Int → Int → List Int → Int → Int → List Int → Option (Bool)
 | 0, _, _, _, _, _, _, _ => none
 | k + 1, x26, x531000, x531001, x531002, x532000, x532001, x532002 => if x26 = true then (some false) else (incunableref06_SameBitmap.l0 k (x531002.length : Int) 0 x531000 x531001 x531002 x532000 x532001 x532002)
def incunableref06_SameBitmap.l0 : Nat → Int → Int → Int → Int → List Int → Int → Int → List Int → Option (Bool)
 | 0, _, _, _, _, _, _, _, _ => none
 | k + 1, x29, x30, x531000, x531001, x531002, x532000, x532001, x532002 => if x30 < x29 then (if 0 ≤ x30 then (if x30 < (x531002.length : Int) then (if x30 < (x532002.length : Int) then (if (rd x531002 x30) = (rd x532002 x30) then (incunableref06_SameBitmap.l0 k x29 (wrap64 (x30 + 1)) x531000 x531001 x531002 x532000 x532001 x532002) else (some false)) else (none)) else (none)) else (none)) else (some true)
end
def incunableref06_SameBitmap.f (k : Nat) (a0_0 : Int) (a0_1 : Int) (l0_2 : List Int) (a1_0 : Int) (a1_1 : Int) (l1_2 : List Int) : Option (Bool) := if a0_0 = a1_0 then (if a0_1 = a1_1 then (incunableref06_SameBitmap.j0 k ((l0_2.length : Int) != (l1_2.length : Int)) a0_0 a0_1 l0_2 a1_0 a1_1 l1_2) else (incunableref06_SameBitmap.j0 k true a0_0 a0_1 l0_2 a1_0 a1_1 l1_2)) else (incunableref06_SameBitmap.j0 k true a0_0 a0_1 l0_2 a1_0 a1_1 l1_2)
theorem incunableref06_SameBitmap.mono_l : ∀ k, (∀ y0 y1 y2 y3 y4 y5 y6, LeO (incunableref06_SameBitmap.j0 k y0 y1 y2 y3 y4 y5 y6) (incunableref06_SameBitmap.j0 (k + 1) y0 y1 y2 y3 y4 y5 y6)) ∧ (∀ y0 y1 y2 y3 y4 y5 y6 y7, LeO (incunableref06_SameBitmap.l0 k y0 y1 y2 y3 y4 y5 y6 y7) (incunableref06_SameBitmap.l0 (k + 1) y0 y1 y2 y3 y4 y5 y6 y7))
 | 0 => ⟨fun _ _ _ _ _ _ _ r h => by simp [incunableref06_SameBitmap.j0] at h, fun _ _ _ _ _ _ _ _ r h => by simp [incunableref06_SameBitmap.l0] at h⟩
 | k + 1 => by
  obtain ⟨ih0, ih1⟩ := incunableref06_SameBitmap.mono_l k
  refine ⟨?_, ?_⟩
  ·intro y0 y1 y2 y3 y4 y5 y6
   unfold incunableref06_SameBitmap.j0
   repeat' first
   | (with_reducible exact ih0 _ _ _ _ _ _ _)
   | (with_reducible exact ih1 _ _ _ _ _ _ _ _)
   | (with_reducible first | exact LeO.refl _ | exact LeO.none _ | refine LeO.ite ?_ ?_ | refine LeO.bind ?_ (fun _ => ?_))
  ·intro y0 y1 y2 y3 y4 y5 y6 y7
   unfold incunableref06_SameBitmap.l0
   repeat' first
   | (with_reducible exact ih0 _ _ _ _ _ _ _)
   | (with_reducible exact ih1 _ _ _ _ _ _ _ _)
   | (with_reducible first | exact LeO.refl _ | exact LeO.none _ | refine LeO.ite ?_ ?_ | refine LeO.bind ?_ (fun _ => ?_))
theorem incunableref06_SameBitmap.mono : ∀ a0 a1 a2 a3 a4 a5 k, LeO (incunableref06_SameBitmap.f k a0 a1 a2 a3 a4 a5) (incunableref06_SameBitmap.f (k + 1) a0 a1 a2 a3 a4 a5) := by
 intro a0 a1 a2 a3 a4 a5 k
 obtain ⟨ih0, ih1⟩ := incunableref06_SameBitmap.mono_l k
 unfold incunableref06_SameBitmap.f
 repeat' first
   | (with_reducible exact ih0 _ _ _ _ _ _ _)
   | (with_reducible exact ih1 _ _ _ _ _ _ _ _)
   | (with_reducible first | exact LeO.refl _ | exact LeO.none _ | refine LeO.ite ?_ ?_ | refine LeO.bind ?_ (fun _ => ?_))
set_option maxHeartbeats 8000000 in
set_option maxRecDepth 100000 in
theorem incunableref06_SameBitmap.calls (k : Nat) (a0_0 : Int) (a0_1 : Int) (A0_2 : Option Addr) (c0_2 : Nat) (l0_2 : List Int) (a1_0 : Int) (a1_1 : Int) (A1_2 : Option Addr) (c1_2 : Nat) (l1_2 : List Int) (r : Bool) (w : World) (hr0_2 : Kd.C (Kd.int .u8) w A0_2 l0_2.length l0_2) (hc0_2 : l0_2.length ≤ c0_2) (hr1_2 : Kd.C (Kd.int .u8) w A1_2 l1_2.length l1_2) (hc1_2 : l1_2.length ≤ c1_2) (h : incunableref06_SameBitmap.f k a0_0 a0_1 l0_2 a1_0 a1_1 l1_2 = some r) :
  Calls Tryd.prog 15 #[.agg #[.int .i64 a0_0, .int .i64 a0_1, .slice A0_2 l0_2.length c0_2], .agg #[.int .i64 a1_0, .int .i64 a1_1, .slice A1_2 l1_2.length c1_2]] w fun e w' => e = .returned (.bool r) ∧ Below w.heap.size w w' := by
 have hu24 := Tryd.underlying24
 have HR0_2 := Aside0.mk hr0_2
 have HC0_2 := Aside0.mk hc0_2
 clear hr0_2 hc0_2
 have HR1_2 := Aside0.mk hr1_2
 have HC1_2 := Aside0.mk hc1_2
 clear hr1_2 hc1_2
 have HB := Aside0.mk (Below.refl w.heap.size w)
 have H := h
 unfold incunableref06_SameBitmap.f at H
 clear h
 have HC3 := Aside0.mk H
 clear H
 go_enter Tryd.func15, Tryd.ntmps15
 go_upto_region 1 with (first | ((with_reducible refine gd 2 rfl ?_); (try (refine gate_guard (by rfl) ?_; dsimp only)); refine bx 2 #[.int .i64 a0_0, .int .i64 a0_1, .slice A0_2 l0_2.length c0_2] 24 rfl rfl ?_; intro gb530 hg w4 hbox hb; have n_ := aC (bs hb) (aC hbox (aC (gz hg) (aE (gz hg)))); clear HB; obtain ⟨HB, BK530, GW530, GE530⟩ := n_; clear hb hbox hg) | ((with_reducible refine gd 3 rfl ?_); (try (refine gate_guard (by rfl) ?_; dsimp only)); refine bx 3 #[.int .i64 a1_0, .int .i64 a1_1, .slice A1_2 l1_2.length c1_2] 24 rfl rfl ?_; intro gb531 hg w5 hbox hb; have n_ := aC (blk_below (bU BK530.out) hb) (aC (bs hb) (aC hbox (aC (gz hg) (aC (gz hg) (aC (gn hg (bU BK530.out)) (aE (gm hg (bU BK530.out)))))))); clear BK530 HB; obtain ⟨BK530, HB, BK531, GW531, GE531, NB530_531, NB531_530⟩ := n_; clear hb hbox hg))
 (try simp only [Act.put, List.setIfInBounds_toArray, List.set_cons_zero, List.set_cons_succ])
 go_cut [26] (fun v26 wc => ∃ (kq : Nat) (x26_2 : Bool), v26 = .bool x26_2 ∧ Aside0 (incunableref06_SameBitmap.j0 kq x26_2 a0_0 a0_1 l0_2 a1_0 a1_1 l1_2 = some r) ∧ Aside0 (kq ≤ k) ∧ Aside0 (wc.heap[gb530]? = some (.cells #[.int .i64 a0_0, .int .i64 a0_1, (.slice A0_2 l0_2.length c0_2)] 24 (0, 0))) ∧ Aside0 (wc.heap[gb531]? = some (.cells #[.int .i64 a1_0, .int .i64 a1_1, (.slice A1_2 l1_2.length c1_2)] 24 (0, 0))) ∧ Aside0 (Below w.heap.size w wc))
 case first =>
  have H := HC3.out
  clear HC3
  rcases iE H with H1 | H1 <;> clear H <;> obtain ⟨H, c6b0, c6b1, c6⟩ := H1
  ·(first | rw [c6b0] | (simp only [i64_w, i32_w]; rw [c6b0]) | skip)
   rcases iE H with H1 | H1 <;> clear H <;> obtain ⟨H, c7b0, c7b1, c7⟩ := H1
   ·have H' := Aside0.mk H
    clear H
    have hnb8 := NB530_531.out
    have hnc8 := NB531_530.out
    obtain ⟨hcz9_0, hcz9_1, hcz9_2, hfz9_0, hfz9_1, hfz9_2⟩ := cz3f BK530.out
    obtain ⟨hcz10_0, hcz10_1, hcz10_2, hfz10_0, hfz10_1, hfz10_2⟩ := cz3f BK531.out
    go_wp2
    go_meet
    case rel => exact ⟨_, (((l0_2.length : Int) != (l1_2.length : Int))), rq, H', ⟨by first | omega | exact Nat.le_refl _⟩, ⟨bU BK530.out⟩, ⟨bU BK531.out⟩, ⟨bl⟩⟩
   ·have H' := Aside0.mk H
    clear H
    have hnb11 := NB530_531.out
    have hnc11 := NB531_530.out
    obtain ⟨hcz12_0, hcz12_1, hcz12_2, hfz12_0, hfz12_1, hfz12_2⟩ := cz3f BK530.out
    obtain ⟨hcz13_0, hcz13_1, hcz13_2, hfz13_0, hfz13_1, hfz13_2⟩ := cz3f BK531.out
    go_wp2
    go_meet
    case rel => exact ⟨_, (true), rq, H', ⟨by first | omega | exact Nat.le_refl _⟩, ⟨bU BK530.out⟩, ⟨bU BK531.out⟩, ⟨bl⟩⟩
  ·(first | rw [c6b0] | (simp only [i64_w, i32_w]; rw [c6b0]) | skip)
   have H' := Aside0.mk H
   clear H
   have hnb14 := NB530_531.out
   have hnc14 := NB531_530.out
   obtain ⟨hcz15_0, hcz15_1, hcz15_2, hfz15_0, hfz15_1, hfz15_2⟩ := cz3f BK530.out
   obtain ⟨hcz16_0, hcz16_1, hcz16_2, hfz16_0, hfz16_1, hfz16_2⟩ := cz3f BK531.out
   go_wp2
   go_meet
   case rel => exact ⟨_, (true), rq, H', ⟨by first | omega | exact Nat.le_refl _⟩, ⟨bU BK530.out⟩, ⟨bU BK531.out⟩, ⟨bl⟩⟩
 case rest =>
  clear HC3
  obtain ⟨kq, x26_2, rfl, HA, HJ2, BK530, BK531, HB⟩ := hcut
  cases kq with
  | zero => exact absurd HA.out (by simp [incunableref06_SameBitmap.j0])
  | succ kj2 =>
   have H := HA.out
   clear HA
   simp only [incunableref06_SameBitmap.j0] at H
   by_cases c17 : x26_2 = true
   ·subst c17
    rw [if_pos rfl] at H
    obtain rfl := Option.some.inj H
    go_wp2
    go_ret
    exact ⟨re, bl⟩
   ·replace c17 := Bool.eq_false_iff.mpr c17
    subst c17
    rw [if_neg Bool.false_ne_true] at H
    have H' := Aside0.mk H
    clear H
    have hnb18 := NB530_531.out
    have hnc18 := NB531_530.out
    obtain ⟨hcz19_0, hcz19_1, hcz19_2, hfz19_0, hfz19_1, hfz19_2⟩ := cz3f BK530.out
    go_wp2
    go_loopg [30] kj2 (fun kq v30 w' => ∃ (x30_2 : Int), v30 = .int .i64 x30_2 ∧ Aside0 (incunableref06_SameBitmap.l0 kq (l0_2.length : Int) x30_2 a0_0 a0_1 l0_2 a1_0 a1_1 l1_2 = some r) ∧ Aside0 (kq ≤ kj2) ∧ Aside0 (w'.heap[gb530]? = some (.cells #[.int .i64 a0_0, .int .i64 a0_1, (.slice A0_2 l0_2.length c0_2)] 24 (0, 0))) ∧ Aside0 (w'.heap[gb531]? = some (.cells #[.int .i64 a1_0, .int .i64 a1_1, (.slice A1_2 l1_2.length c1_2)] 24 (0, 0))) ∧ Aside0 (Below w.heap.size w w'))
    case atStart => exact ⟨(0), rq, H', ⟨Nat.le_refl _⟩, ⟨bU BK530.out⟩, ⟨bU BK531.out⟩, ⟨bl⟩⟩
    case round =>
     clear H'
     obtain ⟨x30_2, rfl, HA, HK2, BK530, BK531, HB⟩ := hrel
     cases gk with
     | zero => exact absurd HA.out (by simp [incunableref06_SameBitmap.l0])
     | succ k2 =>
      have H := HA.out
      clear HA
      simp only [incunableref06_SameBitmap.l0] at H
      rcases iL H with H1 | H1 <;> clear H <;> obtain ⟨H, c20b0⟩ := H1
      ·by_cases c21 : 0 ≤ x30_2
       ·rw [if_pos c21] at H
        have c21b0 := decide_eq_true c21
        clear c21
        by_cases c22 : x30_2 < (l0_2.length : Int)
        ·rw [if_pos c22] at H
         have c22b0 := decide_eq_true c22
         clear c22
         by_cases c23 : x30_2 < (l1_2.length : Int)
         ·rw [if_pos c23] at H
          have c23b0 := decide_eq_true c23
          clear c23
          rcases iE H with H1 | H1 <;> clear H <;> obtain ⟨H, c24b0, c24b1, c24⟩ := H1
          ·have H' := Aside0.mk H
           clear H
           have hnb25 := NB530_531.out
           have hnc25 := NB531_530.out
           obtain ⟨hcz26_0, hcz26_1, hcz26_2, hfz26_0, hfz26_1, hfz26_2⟩ := cz3f BK530.out
           have p532 : 0 ≤ (x30_2 : Int) := dt
           have q532 : x30_2 < (l0_2.length : Int) := dt
           obtain ⟨ad532, e532, hx532_0⟩ := Kd.at_int HR0_2.out x30_2 p532 q532
           cases e532
           replace hx532_0 := hcB HB.out hx532_0
           replace p532 := eq_true p532
           replace q532 := eq_true q532
           obtain ⟨hcz27_0, hcz27_1, hcz27_2, hfz27_0, hfz27_1, hfz27_2⟩ := cz3f BK531.out
           have p533 : 0 ≤ (x30_2 : Int) := dt
           have q533 : x30_2 < (l1_2.length : Int) := dt
           obtain ⟨ad533, e533, hx533_0⟩ := Kd.at_int HR1_2.out x30_2 p533 q533
           cases e533
           replace hx533_0 := hcB HB.out hx533_0
           replace p533 := eq_true p533
           replace q533 := eq_true q533
           go_wp2
           repeat (go_quiet (fail); try go_wp2)
           go_roundg k2
           case measure => have := HJ2.out; have := HK2.out; omega
           case rel => exact ⟨(wrap64 (x30_2 + 1)), rq, H', ⟨by have := HJ2.out; have := HK2.out; omega⟩, ⟨bU BK530.out⟩, ⟨bU BK531.out⟩, ⟨bl⟩⟩
          ·obtain rfl := Option.some.inj H
           have hnb28 := NB530_531.out
           have hnc28 := NB531_530.out
           obtain ⟨hcz29_0, hcz29_1, hcz29_2, hfz29_0, hfz29_1, hfz29_2⟩ := cz3f BK530.out
           have p532 : 0 ≤ (x30_2 : Int) := dt
           have q532 : x30_2 < (l0_2.length : Int) := dt
           obtain ⟨ad532, e532, hx532_0⟩ := Kd.at_int HR0_2.out x30_2 p532 q532
           cases e532
           replace hx532_0 := hcB HB.out hx532_0
           replace p532 := eq_true p532
           replace q532 := eq_true q532
           obtain ⟨hcz30_0, hcz30_1, hcz30_2, hfz30_0, hfz30_1, hfz30_2⟩ := cz3f BK531.out
           have p533 : 0 ≤ (x30_2 : Int) := dt
           have q533 : x30_2 < (l1_2.length : Int) := dt
           obtain ⟨ad533, e533, hx533_0⟩ := Kd.at_int HR1_2.out x30_2 p533 q533
           cases e533
           replace hx533_0 := hcB HB.out hx533_0
           replace p533 := eq_true p533
           replace q533 := eq_true q533
           go_wp2
           repeat (go_quiet (fail); try go_wp2)
           go_ret
           exact ⟨re, bl⟩
         ·rw [if_neg c23] at H
          exact absurd H (by simp)
        ·rw [if_neg c22] at H
         exact absurd H (by simp)
       ·rw [if_neg c21] at H
        exact absurd H (by simp)
      ·obtain rfl := Option.some.inj H
       go_wp2
       go_ret
       exact ⟨re, bl⟩
def bits_Unpack.l0 : Nat → List Int → List Int → Int → Int → Option (List Int × Int)
 | 0, _, _, _, _ => none
 | k + 1, x0, x6, x20, x21 => if x21 < x20 then (if 0 ≤ (wrap64 (Int.tdiv x21 8)) then (if (wrap64 (Int.tdiv x21 8)) < (x0.length : Int) then (if 0 ≤ (wrap64 (7 - (Int.tmod x21 8))) then (if 0 ≤ x21 then (if x21 < (x6.length : Int) then (bits_Unpack.l0 k x0 (x6.set (x21 : Int).toNat (Go.bits .and .u8 (shr .u8 (rd x0 (wrap64 (Int.tdiv x21 8))) (wrap64 (7 - (Int.tmod x21 8)))) 1)) x20 (wrap64 (x21 + 1))) else (none)) else (none)) else (none)) else (none)) else (none)) else (some (x6, 0))
def bits_Unpack.f (k : Nat) (l0 : List Int) (a1 : Int) : Option (List Int × Int) := if a1 < 0 then (some (([] : List Int), 2)) else (if a1 > (wrap64 (8 * (l0.length : Int))) then (some (([] : List Int), 6)) else (if 0 ≤ a1 then (if (a1 : Int).toNat ≤ 281474976710656 then ((some (List.replicate (a1 : Int).toNat 0 : List Int)).bind fun y534 => (bits_Unpack.l0 k l0 y534 (y534.length : Int) 0)) else (none)) else (none)))
theorem bits_Unpack.mono_l : ∀ k, (∀ y0 y1 y2 y3, LeO (bits_Unpack.l0 k y0 y1 y2 y3) (bits_Unpack.l0 (k + 1) y0 y1 y2 y3))
 | 0 => fun _ _ _ _ r h => by simp [bits_Unpack.l0] at h
 | k + 1 => by
  have ih0 := bits_Unpack.mono_l k
  ·intro y0 y1 y2 y3
   unfold bits_Unpack.l0
   repeat' first
   | (with_reducible exact ih0 _ _ _ _)
   | (with_reducible first | exact LeO.refl _ | exact LeO.none _ | refine LeO.ite ?_ ?_ | refine LeO.bind ?_ (fun _ => ?_))
theorem bits_Unpack.mono : ∀ a0 a1 k, LeO (bits_Unpack.f k a0 a1) (bits_Unpack.f (k + 1) a0 a1) := by
 intro a0 a1 k
 have ih0 := bits_Unpack.mono_l k
 unfold bits_Unpack.f
 repeat' first
   | (with_reducible exact ih0 _ _ _ _)
   | (with_reducible first | exact LeO.refl _ | exact LeO.none _ | refine LeO.ite ?_ ?_ | refine LeO.bind ?_ (fun _ => ?_))
set_option maxHeartbeats 8000000 in
set_option maxRecDepth 100000 in
theorem bits_Unpack.calls (k : Nat) (A0 : Option Addr) (c0 : Nat) (l0 : List Int) (a1 : Int) (r1 : List Int) (r2 : Int) (w : World) (hr0 : Kd.C (Kd.int .u8) w A0 l0.length l0) (hc0 : l0.length ≤ c0) (h : bits_Unpack.f k l0 a1 = some (r1, r2)) :
  Calls Tryd.prog 16 #[.slice A0 l0.length c0, .int .i64 a1] w fun e w' => ∃ v0_ : Value, e = .returned (.tuple #[v0_, .int .i64 r2]) ∧ Kd.R (Kd.int .u8) 5 w' w.heap.size (fun _ => True) v0_ r1 ∧ Below w.heap.size w w' := by
 have HR0 := Aside0.mk hr0
 have HC0 := Aside0.mk hc0
 clear hr0 hc0
 have HB := Aside0.mk (Below.refl w.heap.size w)
 have H := h
 unfold bits_Unpack.f at H
 clear h
 rcases iL H with H1 | H1 <;> clear H <;> obtain ⟨H, c3b0⟩ := H1
 ·simp only [Option.some.injEq, Prod.mk.injEq] at H
  obtain ⟨rfl, rfl⟩ := H
  go_enter Tryd.func16, Tryd.ntmps16
  go_wp2
  go_ret2
  exact ⟨_, re, by first | exact Kd.R_nil _ _ _ _ _ | exact Kd.N_nil _ _ _ _ _ | exact Kd.V_nil _ _ _ _ _ | exact Kd.Q_nil _ _ _ _ _ | exact Kd.S_nil _ _ _ _ _, bl⟩
 ·rcases iL H with H1 | H1 <;> clear H <;> obtain ⟨H, c4b0⟩ := H1
  ·simp only [Option.some.injEq, Prod.mk.injEq] at H
   obtain ⟨rfl, rfl⟩ := H
   go_enter Tryd.func16, Tryd.ntmps16
   go_wp2
   go_ret2
   exact ⟨_, re, by first | exact Kd.R_nil _ _ _ _ _ | exact Kd.N_nil _ _ _ _ _ | exact Kd.V_nil _ _ _ _ _ | exact Kd.Q_nil _ _ _ _ _ | exact Kd.S_nil _ _ _ _ _, bl⟩
  ·by_cases c5 : 0 ≤ a1
   ·rw [if_pos c5] at H
    have c5b0 := eq_true c5
    have c5b1 := decide_eq_true c5
    clear c5
    by_cases c6 : (a1 : Int).toNat ≤ 281474976710656
    ·rw [if_pos c6] at H
     have c6b0 := eq_true c6
     have c6b1 := decide_eq_true c6
     clear c6
     obtain ⟨y534, hy_⟩ : ∃ y_ : List Int, y_ = (List.replicate (a1 : Int).toNat 0) := ⟨_, rfl⟩
     replace H : (bits_Unpack.l0 k l0 y534 (y534.length : Int) 0) = some (r1, r2) := rh
     have Ny534 := aE hy_
     clear hy_
     have H' := Aside0.mk H
     clear H
     go_enter Tryd.func16, Tryd.ntmps16
     go_wp2_with (first | ((with_reducible refine gd 18 rfl ?_); refine Kd.R_make (Kd.int .u8) _ 5 rfl (N := 18) rfl 22 _ _ rfl a1 rfl rfl Tryd.underlying22 (.int .u8 0) 1 info5 rfl (by decide) (by omega) 0 (ok := fun _ => True) (okp := fun _ => True) rfl (fun _ hk => hk) trivial (dt) (Nat.le_trans (Nat.mul_le_mul_right _ (dt : a1.toNat ≤ 281474976710656)) (by omega)) (Below.refl _ _) (Nat.le_refl _) ?_; intro v535 w7 ho8 hb hg_ hnew_; clear hg_ hnew_; (first | rw [← Ny534.out] at ho8 | (simp only [Int.reduceToNat] at ho8; rw [← Ny534.out] at ho8)); have n_ := aC (Kd.R_lower ho8 bz) (aE (bs hb)); clear HB; obtain ⟨HO536, HB⟩ := n_; clear hb ho8; obtain ⟨Ao9, co9, eo9⟩ := Kd.R_slice HO536.out; subst eo9))
     go_loopg [21] k (fun kq v21 w' => ∃ (x6_1 : List Int) (x21_1 : Int), v21 = .int .i64 x21_1 ∧ Aside0 (bits_Unpack.l0 kq l0 x6_1 (y534.length : Int) x21_1 = some (r1, r2)) ∧ Aside0 (kq ≤ k) ∧ Aside0 (Kd.R (Kd.int .u8) 5 w' w.heap.size (fun _ => True) (.slice Ao9 y534.length co9) x6_1) ∧ Aside0 (Below w.heap.size w w'))
     case atStart => exact ⟨(y534), (0), rq, H', ⟨Nat.le_refl _⟩, ⟨rU HO536.out⟩, ⟨bl⟩⟩
     case round =>
      clear H'
      obtain ⟨x6_1, x21_1, rfl, HA, HK1, HO_6, HB⟩ := hrel
      have hl6_1 := (Kd.R_reads' HO_6.out).1
      rw [hl6_1] at HO_6
      (try simp only [hl6_1])
      cases gk with
      | zero => exact absurd HA.out (by simp [bits_Unpack.l0])
      | succ k1 =>
       have H := HA.out
       clear HA
       simp only [bits_Unpack.l0] at H
       by_cases c10 : x21_1 < (y534.length : Int)
       ·rw [if_pos c10] at H
        have c10b0 := decide_eq_true c10
        (try (have c10b0_hl6_1 := c10b0; simp only [hl6_1] at c10b0_hl6_1))
        clear c10
        obtain ⟨ji11, hji11⟩ : ∃ j_ : Int, (wrap64 (Int.tdiv x21_1 8)) = j_ := ⟨_, rfl⟩
        replace H : (if 0 ≤ (ji11) then (if (ji11) < (l0.length : Int) then (if 0 ≤ (wrap64 (7 - (Int.tmod x21_1 8))) then (if 0 ≤ x21_1 then (if x21_1 < (x6_1.length : Int) then (bits_Unpack.l0 k1 l0 (x6_1.set (x21_1 : Int).toNat (Go.bits .and .u8 (shr .u8 (rd l0 (ji11)) (wrap64 (7 - (Int.tmod x21_1 8)))) 1)) (y534.length : Int) (wrap64 (x21_1 + 1))) else (none)) else (none)) else (none)) else (none)) else (none)) = some (r1, r2) := by first | (rw [hji11] at H; exact H) | (simp only [hji11] at H ⊢; exact H)
        have hji11w : (IntKind.i64.wrap (Int.tdiv x21_1 8)) = ji11 := (i64_w _).trans hji11
        by_cases c12 : 0 ≤ (ji11)
        ·rw [if_pos c12] at H
         have c12b0 := decide_eq_true c12
         clear c12
         by_cases c13 : (ji11) < (l0.length : Int)
         ·rw [if_pos c13] at H
          have c13b0 := decide_eq_true c13
          (try (have c13b0_hl6_1 := c13b0; simp only [hl6_1] at c13b0_hl6_1))
          clear c13
          obtain ⟨ji14, hji14⟩ : ∃ j_ : Int, (wrap64 (7 - (Int.tmod x21_1 8))) = j_ := ⟨_, rfl⟩
          replace H : (if 0 ≤ (ji14) then (if 0 ≤ x21_1 then (if x21_1 < (x6_1.length : Int) then (bits_Unpack.l0 k1 l0 (x6_1.set (x21_1 : Int).toNat (Go.bits .and .u8 (shr .u8 (rd l0 (ji11)) (ji14)) 1)) (y534.length : Int) (wrap64 (x21_1 + 1))) else (none)) else (none)) else (none)) = some (r1, r2) := by first | (rw [hji14] at H; exact H) | (simp only [hji14] at H ⊢; exact H)
          have hji14w : (IntKind.i64.wrap (7 - (Int.tmod x21_1 8))) = ji14 := (i64_w _).trans hji14
          by_cases c15 : 0 ≤ (ji14)
          ·rw [if_pos c15] at H
           have c15b0 := eq_true c15
           have c15b1 := decide_eq_true c15
           clear c15
           obtain ⟨ji16, hji16⟩ : ∃ j_ : Int, (shr .u8 (rd l0 (ji11)) (ji14)) = j_ := ⟨_, rfl⟩
           replace H : (if 0 ≤ x21_1 then (if x21_1 < (x6_1.length : Int) then (bits_Unpack.l0 k1 l0 (x6_1.set (x21_1 : Int).toNat (Go.bits .and .u8 (ji16) 1)) (y534.length : Int) (wrap64 (x21_1 + 1))) else (none)) else (none)) = some (r1, r2) := by first | (rw [hji16] at H; exact H) | (simp only [hji16] at H ⊢; exact H)
           have hji16_ : ((rd l0 (ji11)) / 2 ^ min (ji14).toNat 8) = ji16 := hji16
           have hji16z : (ji14) ≤ 8 → ((rd l0 (ji11)) / 2 ^ (ji14).toNat) = ji16 := shr_small hji16
           by_cases c17 : 0 ≤ x21_1
           ·rw [if_pos c17] at H
            have c17b0 := decide_eq_true c17
            clear c17
            by_cases c18 : x21_1 < (x6_1.length : Int)
            ·rw [if_pos c18] at H
             have c18b0 := decide_eq_true c18
             (try (have c18b0_hl6_1 := c18b0; simp only [hl6_1] at c18b0_hl6_1))
             clear c18
             obtain ⟨y538, hy_⟩ : ∃ y_ : List Int, y_ = (x6_1.set (x21_1 : Int).toNat (Go.bits .and .u8 (ji16) 1)) := ⟨_, rfl⟩
             replace H : (bits_Unpack.l0 k1 l0 y538 (y534.length : Int) (wrap64 (x21_1 + 1))) = some (r1, r2) := rh
             have Ny538 := aE hy_
             clear hy_
             have H' := Aside0.mk H
             clear H
             have p537 : 0 ≤ ((ji11) : Int) := dt
             have q537 : (ji11) < (l0.length : Int) := dt
             obtain ⟨ad537, e537, hx537_0⟩ := Kd.at_int HR0.out (ji11) p537 q537
             cases e537
             replace hx537_0 := hcB HB.out hx537_0
             replace p537 := eq_true p537
             replace q537 := eq_true q537
             have p19 : 0 ≤ (x21_1 : Int) := dt
             have q19 : (x21_1 : Int) < ((x6_1.length : Int) : Int) := dt
             obtain ⟨go19, co19, eo19, gb19, gl19, cl19, HG19⟩ := Kd.R_form HO_6.out (by omega)
             (first | cases eo19 | (injection eo19 with ea_ en_ ec_; (first | subst ea_ | (injection ea_ with ea_; subst ea_)); subst ec_; clear en_))
             have GB19 := Aside0.mk gb19
             have GG19 := Aside0.mk HG19
             clear gb19 gl19 HG19
             obtain ⟨hx19_0, hf19_0⟩ := Kd.R_celln 0 HO_6.out (x21_1 : Int) p19 q19
             replace p19 := eq_true p19
             replace q19 := eq_true q19
             have HP20 := Kd.R_putg HO_6.out (x21_1 : Int) (Go.bits .and .u8 (ji16) 1)
             go_wp2_with (first | ((with_reducible refine gate_store (t := 5) (p := 36) rfl ?_); refine store_event (t := 5) (p := 36) (v := ?vo_w21) (w1 := (wr.setCell ⟨go19, (x21_1 : Int).toNat, none⟩ (.int .u8 (Go.bits .and .u8 (ji16) 1)))) ?hg ?ho ?hn ?hr ?_; (case ho => rfl); (case hg => rfl); (case hn => rfl); (case hr => first | (go_simp; done) | (go_simp; rfl)); intro w21 hw; have hg : wr.grownBy w21 (some go19) := (by rw [hw]; exact HP20.2); have hp_ : Kd.R (Kd.int .u8) 5 w21 w.heap.size (fun _ => True) (.slice (some ⟨go19, 0, none⟩) x6_1.length co9) y538 := (by rw [hw, Ny538.out]; exact HP20.1); clear HP20; have n_ := aC hp_ (aE ((by rw [hw]; exact below_set (HB.out) GB19.out : Below w.heap.size w w21))); clear HO_6 HB; obtain ⟨HO_6, HB⟩ := n_; clear hg hw hp_))
             (try simp only [← hl6_1])
             go_roundg k1
             case measure => have := HK1.out; omega
             case rel => exact ⟨(y538), (wrap64 (x21_1 + 1)), rq, H', ⟨by have := HK1.out; omega⟩, ⟨by (try simp only [hl6_1]); (with_reducible repeat (first | apply Kd.R_alloc | apply Kd.R_drewN | apply Kd.R_drew)); exact HO_6.out⟩, ⟨bl⟩⟩
            ·rw [if_neg c18] at H
             exact absurd H (by simp)
           ·rw [if_neg c17] at H
            exact absurd H (by simp)
          ·rw [if_neg c15] at H
           exact absurd H (by simp)
         ·rw [if_neg c13] at H
          exact absurd H (by simp)
        ·rw [if_neg c12] at H
         exact absurd H (by simp)
       ·rw [if_neg c10] at H
        have c10b0 := decide_eq_false c10
        (try (have c10b0_hl6_1 := c10b0; simp only [hl6_1] at c10b0_hl6_1))
        clear c10
        simp only [Option.some.injEq, Prod.mk.injEq] at H
        obtain ⟨rfl, rfl⟩ := H
        go_wp2
        go_ret2
        exact ⟨_, re, rU HO_6.out, bl⟩
    ·rw [if_neg c6] at H
     exact absurd H (by simp)
   ·rw [if_neg c5] at H
    exact absurd H (by simp)
end Go.Proofs.YtidgpjcgoocpeaaDoor.PTopRuns
