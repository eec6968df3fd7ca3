-- printed (wip/tools/myprint.py)
import Derived.Test.YtacdchogjpeffaaDoorPNoteHitsx0
import Derived.Test.YtacdchogjpeffaaDoorPNoteHitsx4
import Derived.Test.YtacdchogjpeffaaDoorPNoteHitsx5
namespace Go.Proofs.YtacdchogjpeffaaDoor.PNoteHits
open Go.RowKit Go.Proofs.YtacdchogjpeffaaDoorW.PrintWords Go.Proofs.YtacdchogjpeffaaDoorW.PrintLast Go.Proofs.YtacdchogjpeffaaDoorW.PrintMore
attribute [local go_sem] max2_int min2_int max_two min_two max_three min_three max_four min_four
set_option linter.unusedVariables false
set_option linter.unusedSimpArgs false
def note_has.j0 : Nat → Int → Int → Bool → Int → ByteArray → Int → List (S33) → Int → Int → Int → Int → Option (Bool)
 | 0, _, _, _, _, _, _, _, _, _, _, _ => none
 | k + 1, x1, x2, x39, x178000, x178001, x178002, x178003, x183000, x183001, x183002, x183003 => if x39 = true then (some false) else (if 3 < (x178003.length : Int) then (if 0 < (((rd_T33 x178003 3).f3).length : Int) then (if ((rd_T33 ((rd_T33 x178003 3).f3) 0).f1).toList = ([114, 101, 99, 116] : List UInt8) then (some true) else (some (decide ((wrap64 ((wrap64 ((wrap64 ((wrap64 ((wrap64 ((wrap64 (2 * (wrap64 (x1 - x183000)))) + 1)) - x183002)) * x183003)) * (wrap64 ((wrap64 ((wrap64 ((wrap64 (2 * (wrap64 (x1 - x183000)))) + 1)) - x183002)) * x183003)))) + (wrap64 ((wrap64 ((wrap64 ((wrap64 ((wrap64 (2 * (wrap64 (x2 - x183001)))) + 1)) - x183003)) * x183002)) * (wrap64 ((wrap64 ((wrap64 ((wrap64 (2 * (wrap64 (x2 - x183001)))) + 1)) - x183003)) * x183002)))))) ≤ (wrap64 ((wrap64 ((wrap64 (x183002 * x183002)) * x183003)) * x183003)))))) else (none)) else (none))
def note_has.f (k : Nat) (a0_0 : Int) (a0_1 : ByteArray) (a0_2 : Int) (l0_3 : List (S33)) (a1 : Int) (a2 : Int) : Option (Bool) := (note_area.f a0_0 a0_1 a0_2 l0_3).bind fun bt178 => (if a1 < bt178.1 then (note_has.j0 k a1 a2 true a0_0 a0_1 a0_2 l0_3 bt178.1 bt178.2.1 bt178.2.2.1 bt178.2.2.2) else (if a2 < bt178.2.1 then (note_has.j0 k a1 a2 true a0_0 a0_1 a0_2 l0_3 bt178.1 bt178.2.1 bt178.2.2.1 bt178.2.2.2) else (if a1 ≥ (wrap64 (bt178.1 + bt178.2.2.1)) then (note_has.j0 k a1 a2 true a0_0 a0_1 a0_2 l0_3 bt178.1 bt178.2.1 bt178.2.2.1 bt178.2.2.2) else (note_has.j0 k a1 a2 (decide (a2 ≥ (wrap64 (bt178.2.1 + bt178.2.2.2)))) a0_0 a0_1 a0_2 l0_3 bt178.1 bt178.2.1 bt178.2.2.1 bt178.2.2.2))))
theorem note_has.mono_l : ∀ k, (∀ y0 y1 y2 y3 y4 y5 y6 y7 y8 y9 y10, LeO (note_has.j0 k y0 y1 y2 y3 y4 y5 y6 y7 y8 y9 y10) (note_has.j0 (k + 1) y0 y1 y2 y3 y4 y5 y6 y7 y8 y9 y10))
 | 0 => fun _ _ _ _ _ _ _ _ _ _ _ r h => by simp [note_has.j0] at h
 | k + 1 => by
  have ih0 := note_has.mono_l k
  ·intro y0 y1 y2 y3 y4 y5 y6 y7 y8 y9 y10
   unfold note_has.j0
   repeat' first
   | (with_reducible exact ih0 _ _ _ _ _ _ _ _ _ _ _)
   | (with_reducible first | exact LeO.refl _ | exact LeO.none _ | refine LeO.ite ?_ ?_ | refine LeO.bind ?_ (fun _ => ?_))
theorem note_has.mono : ∀ a0 a1 a2 a3 a4 a5 k, LeO (note_has.f k a0 a1 a2 a3 a4 a5) (note_has.f (k + 1) a0 a1 a2 a3 a4 a5) := by
 intro a0 a1 a2 a3 a4 a5 k
 have ih0 := note_has.mono_l k
 unfold note_has.f
 repeat' first
   | (with_reducible exact ih0 _ _ _ _ _ _ _ _ _ _ _)
   | (with_reducible first | exact LeO.refl _ | exact LeO.none _ | refine LeO.ite ?_ ?_ | refine LeO.bind ?_ (fun _ => ?_))
set_option maxHeartbeats 8000000 in
set_option maxRecDepth 100000 in
theorem note_has.calls (k : Nat) (a0_0 : Int) (a0_1 : ByteArray) (a0_2 : Int) (A0_3 : Option Addr) (c0_3 : Nat) (l0_3 : List (S33)) (a1 : Int) (a2 : Int) (r : Bool) (w : World) (hr0_3 : Kd.C k33 w A0_3 l0_3.length l0_3) (hc0_3 : l0_3.length ≤ c0_3) (h : note_has.f k a0_0 a0_1 a0_2 l0_3 a1 a2 = some r) :
  Calls Tryd.prog 49 #[.agg #[.int .i64 a0_0, .string a0_1, .int .i64 a0_2, .slice A0_3 l0_3.length c0_3], .int .i64 a1, .int .i64 a2] w fun e w' => e = .returned (.bool r) ∧ Below w.heap.size w w' := by
 have hu33 := Tryd.underlying33
 have hu39 := Tryd.underlying39
 have HR0_3 := Aside0.mk hr0_3
 have HC0_3 := Aside0.mk hc0_3
 clear hr0_3 hc0_3
 have HB := Aside0.mk (Below.refl w.heap.size w)
 have H := h
 unfold note_has.f at H
 clear h
 obtain ⟨⟨t178, t179, t180, t181⟩, A4, H⟩ := oB H
 try dsimp only at H
 have HC5 := Aside0.mk H
 clear H
 go_enter Tryd.func49, Tryd.ntmps49
 go_upto_region 2 with (first | ((with_reducible refine gd 3 rfl ?_); refine bx 3 #[.int .i64 a0_0, .string a0_1, .int .i64 a0_2, .slice A0_3 l0_3.length c0_3] 33 rfl rfl ?_; intro gb177 hg w6 hbox hb; have n_ := aC (bs hb) (aC hbox (aC (gz hg) (aE (gz hg)))); clear HB; obtain ⟨HB, BK177, GW177, GE177⟩ := n_; clear hb hbox hg; obtain ⟨hcz7_0, hcz7_1, hcz7_2, hcz7_3, hfz7_0, hfz7_1, hfz7_2, hfz7_3⟩ := cz4f BK177.out) | (go_at_call 42; (with_reducible refine (note_area.calls a0_0 a0_1 a0_2 _ _ l0_3 t178 t179 t180 t181 _ ?side1 ?side2 A4.out).mono ?_); (case side1 => exact cU (Kd.C_below HR0_3.out HB.out)); (case side2 => exact HC0_3.out); rintro e w8 ⟨rfl, hb⟩; have n_ := aC (blk_below (bU BK177.out) hb) (aE (bs hb)); clear BK177 HB; obtain ⟨BK177, HB⟩ := n_) | ((with_reducible refine gd 7 rfl ?_); refine bx 7 #[.int .i64 0, .int .i64 0, .int .i64 0, .int .i64 0] 39 rfl rfl ?_; intro gb182 hg w9 hbox hb; have n_ := aC (blk_below (bU BK177.out) hb) (aC (bs hb) (aC hbox (aC (gz hg) (aC (gz hg) (aC (gn hg (bU BK177.out)) (aE (gm hg (bU BK177.out)))))))); clear BK177 HB; obtain ⟨BK177, HB, BK182, GW182, GE182, NB177_182, NB182_177⟩ := n_; clear hb hbox hg; have hnb10 := NB182_177.out; have hnc10 := NB177_182.out; obtain ⟨hcz11_0, hcz11_1, hcz11_2, hcz11_3, hfz11_0, hfz11_1, hfz11_2, hfz11_3⟩ := cz4f BK182.out))
 (try simp only [Act.put, List.setIfInBounds_toArray, List.set_cons_zero, List.set_cons_succ])
 go_cut [39] (fun v39 wc => ∃ (kq : Nat) (x39_4 : Bool), v39 = .bool x39_4 ∧ Aside0 (note_has.j0 kq a1 a2 x39_4 a0_0 a0_1 a0_2 l0_3 t178 t179 t180 t181 = some r) ∧ Aside0 (kq ≤ k) ∧ Aside0 (wc.heap[gb177]? = some (.cells #[.int .i64 a0_0, .string a0_1, .int .i64 a0_2, (.slice A0_3 l0_3.length c0_3)] 33 (0, 0))) ∧ Aside0 (wc.heap[gb182]? = some (.cells #[.int .i64 t178, .int .i64 t179, .int .i64 t180, .int .i64 t181] 39 (0, 0))) ∧ Aside0 (Below w.heap.size w wc))
 case first =>
  have H := HC5.out
  clear HC5
  rcases iL H with H1 | H1 <;> clear H <;> obtain ⟨H, c12b0⟩ := H1
  ·(first | rw [c12b0] | (simp only [i64_w, i32_w]; rw [c12b0]) | skip)
   have H' := Aside0.mk H
   clear H
   have hnb13 := NB182_177.out
   have hnc13 := NB177_182.out
   obtain ⟨hcz14_0, hcz14_1, hcz14_2, hcz14_3, hfz14_0, hfz14_1, hfz14_2, hfz14_3⟩ := cz4f BK182.out
   go_wp2
   go_meet
   case rel => exact ⟨_, (true), rq, H', ⟨by first | omega | exact Nat.le_refl _⟩, ⟨by (with_reducible repeat (first | refine blk_drewN ?_ _ | refine blk_drew ?_ | refine blk_alloc ?_ _)); refine blk_far ?_ NB177_182.out _; (with_reducible repeat (first | refine blk_drewN ?_ _ | refine blk_drew ?_ | refine blk_alloc ?_ _)); refine blk_far ?_ NB177_182.out _; (with_reducible repeat (first | refine blk_drewN ?_ _ | refine blk_drew ?_ | refine blk_alloc ?_ _)); refine blk_far ?_ NB177_182.out _; (with_reducible repeat (first | refine blk_drewN ?_ _ | refine blk_drew ?_ | refine blk_alloc ?_ _)); refine blk_far ?_ NB177_182.out _; (with_reducible repeat (first | refine blk_drewN ?_ _ | refine blk_drew ?_ | refine blk_alloc ?_ _)); exact BK177.out⟩, ⟨by (with_reducible repeat (first | refine blk_drewN ?_ _ | refine blk_drew ?_ | refine blk_alloc ?_ _)); refine blk_put (cs := #[.int .i64 t178, .int .i64 t179, .int .i64 t180, .int .i64 0]) ?_ 3 _ rfl; (with_reducible repeat (first | refine blk_drewN ?_ _ | refine blk_drew ?_ | refine blk_alloc ?_ _)); refine blk_put (cs := #[.int .i64 t178, .int .i64 t179, .int .i64 0, .int .i64 0]) ?_ 2 _ rfl; (with_reducible repeat (first | refine blk_drewN ?_ _ | refine blk_drew ?_ | refine blk_alloc ?_ _)); refine blk_put (cs := #[.int .i64 t178, .int .i64 0, .int .i64 0, .int .i64 0]) ?_ 1 _ rfl; (with_reducible repeat (first | refine blk_drewN ?_ _ | refine blk_drew ?_ | refine blk_alloc ?_ _)); refine blk_put (cs := #[.int .i64 0, .int .i64 0, .int .i64 0, .int .i64 0]) ?_ 0 _ rfl; (with_reducible repeat (first | refine blk_drewN ?_ _ | refine blk_drew ?_ | refine blk_alloc ?_ _)); exact BK182.out⟩, ⟨bl⟩⟩
  ·(first | rw [c12b0] | (simp only [i64_w, i32_w]; rw [c12b0]) | skip)
   rcases iL H with H1 | H1 <;> clear H <;> obtain ⟨H, c15b0⟩ := H1
   ·have H' := Aside0.mk H
    clear H
    have hnb16 := NB182_177.out
    have hnc16 := NB177_182.out
    obtain ⟨hcz17_0, hcz17_1, hcz17_2, hcz17_3, hfz17_0, hfz17_1, hfz17_2, hfz17_3⟩ := cz4f BK182.out
    go_wp2
    go_meet
    case rel => exact ⟨_, (true), rq, H', ⟨by first | omega | exact Nat.le_refl _⟩, ⟨by (with_reducible repeat (first | refine blk_drewN ?_ _ | refine blk_drew ?_ | refine blk_alloc ?_ _)); refine blk_far ?_ NB177_182.out _; (with_reducible repeat (first | refine blk_drewN ?_ _ | refine blk_drew ?_ | refine blk_alloc ?_ _)); refine blk_far ?_ NB177_182.out _; (with_reducible repeat (first | refine blk_drewN ?_ _ | refine blk_drew ?_ | refine blk_alloc ?_ _)); refine blk_far ?_ NB177_182.out _; (with_reducible repeat (first | refine blk_drewN ?_ _ | refine blk_drew ?_ | refine blk_alloc ?_ _)); refine blk_far ?_ NB177_182.out _; (with_reducible repeat (first | refine blk_drewN ?_ _ | refine blk_drew ?_ | refine blk_alloc ?_ _)); exact BK177.out⟩, ⟨by (with_reducible repeat (first | refine blk_drewN ?_ _ | refine blk_drew ?_ | refine blk_alloc ?_ _)); refine blk_put (cs := #[.int .i64 t178, .int .i64 t179, .int .i64 t180, .int .i64 0]) ?_ 3 _ rfl; (with_reducible repeat (first | refine blk_drewN ?_ _ | refine blk_drew ?_ | refine blk_alloc ?_ _)); refine blk_put (cs := #[.int .i64 t178, .int .i64 t179, .int .i64 0, .int .i64 0]) ?_ 2 _ rfl; (with_reducible repeat (first | refine blk_drewN ?_ _ | refine blk_drew ?_ | refine blk_alloc ?_ _)); refine blk_put (cs := #[.int .i64 t178, .int .i64 0, .int .i64 0, .int .i64 0]) ?_ 1 _ rfl; (with_reducible repeat (first | refine blk_drewN ?_ _ | refine blk_drew ?_ | refine blk_alloc ?_ _)); refine blk_put (cs := #[.int .i64 0, .int .i64 0, .int .i64 0, .int .i64 0]) ?_ 0 _ rfl; (with_reducible repeat (first | refine blk_drewN ?_ _ | refine blk_drew ?_ | refine blk_alloc ?_ _)); exact BK182.out⟩, ⟨bl⟩⟩
   ·rcases iL H with H1 | H1 <;> clear H <;> obtain ⟨H, c18b0⟩ := H1
    ·have H' := Aside0.mk H
     clear H
     have hnb19 := NB182_177.out
     have hnc19 := NB177_182.out
     obtain ⟨hcz20_0, hcz20_1, hcz20_2, hcz20_3, hfz20_0, hfz20_1, hfz20_2, hfz20_3⟩ := cz4f BK182.out
     go_wp2
     go_meet
     case rel => exact ⟨_, (true), rq, H', ⟨by first | omega | exact Nat.le_refl _⟩, ⟨by (with_reducible repeat (first | refine blk_drewN ?_ _ | refine blk_drew ?_ | refine blk_alloc ?_ _)); refine blk_far ?_ NB177_182.out _; (with_reducible repeat (first | refine blk_drewN ?_ _ | refine blk_drew ?_ | refine blk_alloc ?_ _)); refine blk_far ?_ NB177_182.out _; (with_reducible repeat (first | refine blk_drewN ?_ _ | refine blk_drew ?_ | refine blk_alloc ?_ _)); refine blk_far ?_ NB177_182.out _; (with_reducible repeat (first | refine blk_drewN ?_ _ | refine blk_drew ?_ | refine blk_alloc ?_ _)); refine blk_far ?_ NB177_182.out _; (with_reducible repeat (first | refine blk_drewN ?_ _ | refine blk_drew ?_ | refine blk_alloc ?_ _)); exact BK177.out⟩, ⟨by (with_reducible repeat (first | refine blk_drewN ?_ _ | refine blk_drew ?_ | refine blk_alloc ?_ _)); refine blk_put (cs := #[.int .i64 t178, .int .i64 t179, .int .i64 t180, .int .i64 0]) ?_ 3 _ rfl; (with_reducible repeat (first | refine blk_drewN ?_ _ | refine blk_drew ?_ | refine blk_alloc ?_ _)); refine blk_put (cs := #[.int .i64 t178, .int .i64 t179, .int .i64 0, .int .i64 0]) ?_ 2 _ rfl; (with_reducible repeat (first | refine blk_drewN ?_ _ | refine blk_drew ?_ | refine blk_alloc ?_ _)); refine blk_put (cs := #[.int .i64 t178, .int .i64 0, .int .i64 0, .int .i64 0]) ?_ 1 _ rfl; (with_reducible repeat (first | refine blk_drewN ?_ _ | refine blk_drew ?_ | refine blk_alloc ?_ _)); refine blk_put (cs := #[.int .i64 0, .int .i64 0, .int .i64 0, .int .i64 0]) ?_ 0 _ rfl; (with_reducible repeat (first | refine blk_drewN ?_ _ | refine blk_drew ?_ | refine blk_alloc ?_ _)); exact BK182.out⟩, ⟨bl⟩⟩
    ·have H' := Aside0.mk H
     clear H
     have hnb21 := NB182_177.out
     have hnc21 := NB177_182.out
     obtain ⟨hcz22_0, hcz22_1, hcz22_2, hcz22_3, hfz22_0, hfz22_1, hfz22_2, hfz22_3⟩ := cz4f BK182.out
     go_wp2
     go_meet
     case rel => exact ⟨_, (decide (a2 ≥ (wrap64 (t179 + t181)))), rq, H', ⟨by first | omega | exact Nat.le_refl _⟩, ⟨by (with_reducible repeat (first | refine blk_drewN ?_ _ | refine blk_drew ?_ | refine blk_alloc ?_ _)); refine blk_far ?_ NB177_182.out _; (with_reducible repeat (first | refine blk_drewN ?_ _ | refine blk_drew ?_ | refine blk_alloc ?_ _)); refine blk_far ?_ NB177_182.out _; (with_reducible repeat (first | refine blk_drewN ?_ _ | refine blk_drew ?_ | refine blk_alloc ?_ _)); refine blk_far ?_ NB177_182.out _; (with_reducible repeat (first | refine blk_drewN ?_ _ | refine blk_drew ?_ | refine blk_alloc ?_ _)); refine blk_far ?_ NB177_182.out _; (with_reducible repeat (first | refine blk_drewN ?_ _ | refine blk_drew ?_ | refine blk_alloc ?_ _)); exact BK177.out⟩, ⟨by (with_reducible repeat (first | refine blk_drewN ?_ _ | refine blk_drew ?_ | refine blk_alloc ?_ _)); refine blk_put (cs := #[.int .i64 t178, .int .i64 t179, .int .i64 t180, .int .i64 0]) ?_ 3 _ rfl; (with_reducible repeat (first | refine blk_drewN ?_ _ | refine blk_drew ?_ | refine blk_alloc ?_ _)); refine blk_put (cs := #[.int .i64 t178, .int .i64 t179, .int .i64 0, .int .i64 0]) ?_ 2 _ rfl; (with_reducible repeat (first | refine blk_drewN ?_ _ | refine blk_drew ?_ | refine blk_alloc ?_ _)); refine blk_put (cs := #[.int .i64 t178, .int .i64 0, .int .i64 0, .int .i64 0]) ?_ 1 _ rfl; (with_reducible repeat (first | refine blk_drewN ?_ _ | refine blk_drew ?_ | refine blk_alloc ?_ _)); refine blk_put (cs := #[.int .i64 0, .int .i64 0, .int .i64 0, .int .i64 0]) ?_ 0 _ rfl; (with_reducible repeat (first | refine blk_drewN ?_ _ | refine blk_drew ?_ | refine blk_alloc ?_ _)); exact BK182.out⟩, ⟨bl⟩⟩
 case rest =>
  clear HC5
  obtain ⟨kq, x39_4, rfl, HA, HJ4, BK177, BK182, HB⟩ := hcut
  cases kq with
  | zero => exact absurd HA.out (by simp [note_has.j0])
  | succ kj4 =>
   have H := HA.out
   clear HA
   simp only [note_has.j0] at H
   by_cases c23 : x39_4 = true
   ·subst c23
    rw [if_pos rfl] at H
    obtain rfl := Option.some.inj H
    go_wp2
    go_ret
    exact ⟨re, bl⟩
   ·replace c23 := Bool.eq_false_iff.mpr c23
    subst c23
    rw [if_neg Bool.false_ne_true] at H
    by_cases c24 : 3 < (l0_3.length : Int)
    ·rw [if_pos c24] at H
     have c24b0 := decide_eq_true c24
     have c24b1 : decide (3 < l0_3.length) = true := decide_eq_true (by omega)
     clear c24
     by_cases c25 : 0 < (((rd_T33 l0_3 3).f3).length : Int)
     ·rw [if_pos c25] at H
      have c25b0 := decide_eq_true c25
      have c25b1 : decide (0 < ((rd_T33 l0_3 3).f3).length) = true := decide_eq_true (by omega)
      clear c25
      rcases iE H with H1 | H1 <;> clear H <;> obtain ⟨H, c26b0, c26b1, c26⟩ := H1
      ·obtain rfl := Option.some.inj H
       have hnb27 := NB177_182.out
       have hnc27 := NB182_177.out
       obtain ⟨hcz28_0, hcz28_1, hcz28_2, hcz28_3, hfz28_0, hfz28_1, hfz28_2, hfz28_3⟩ := cz4f BK177.out
       have p183 : 0 ≤ (3 : Int) := (by omega)
       have q183 : 3 < (l0_3.length : Int) := dt
       obtain ⟨ad183, A183_3, c183_3, e183, hx183_0, hx183_1, hx183_2, hx183_3, hl183_3, hi183_3⟩ := at_T33 HR0_3.out 3 p183 q183
       cases e183
       (try simp only [show (3 : Int).toNat = 3 from rfl, Nat.reduceMul, Nat.reduceEqDiff, Go.Addr.add, ↓reduceIte] at hx183_0)
       (try simp only [show (3 : Int).toNat = 3 from rfl, Nat.reduceMul, Nat.reduceEqDiff, Go.Addr.add, ↓reduceIte] at hx183_1)
       (try simp only [show (3 : Int).toNat = 3 from rfl, Nat.reduceMul, Nat.reduceEqDiff, Go.Addr.add, ↓reduceIte] at hx183_2)
       (try simp only [show (3 : Int).toNat = 3 from rfl, Nat.reduceMul, Nat.reduceEqDiff, Go.Addr.add, ↓reduceIte] at hx183_3)
       have qi183 : (3 < l0_3.length) = True := eq_true (by omega)
       (try rw [show ((3 : Int)).toNat = 3 from rfl] at hx183_0)
       (try rw [show 3 * 4 = 12 from rfl] at hx183_0)
       (try rw [show ((3 : Int)).toNat = 3 from rfl] at hx183_1)
       (try rw [show 3 * 4 = 12 from rfl] at hx183_1)
       (try rw [show ((3 : Int)).toNat = 3 from rfl] at hx183_2)
       (try rw [show 3 * 4 = 12 from rfl] at hx183_2)
       (try rw [show ((3 : Int)).toNat = 3 from rfl] at hx183_3)
       (try rw [show 3 * 4 = 12 from rfl] at hx183_3)
       replace hx183_0 := hcB HB.out hx183_0
       replace hx183_1 := hcB HB.out hx183_1
       replace hx183_2 := hcB HB.out hx183_2
       replace hx183_3 := hcB HB.out hx183_3
       have HR183_3 := Aside0.mk hi183_3
       have HC183_3 := Aside0.mk hl183_3
       clear hi183_3 hl183_3
       replace p183 := eq_true p183
       replace q183 := eq_true q183
       have p184 : 0 ≤ (0 : Int) := (by omega)
       have q184 : 0 < (((rd_T33 l0_3 3).f3).length : Int) := dt
       obtain ⟨ad184, A184_3, c184_3, e184, hx184_0, hx184_1, hx184_2, hx184_3, hl184_3, hi184_3⟩ := at_T33 HR183_3.out 0 p184 q184
       cases e184
       have qi184 : (0 < ((rd_T33 l0_3 3).f3).length) = True := eq_true (by omega)
       (try rw [show ((0 : Int)).toNat = 0 from rfl] at hx184_0)
       (try rw [show 0 * 4 = 0 from rfl] at hx184_0)
       (try rw [Addr.add_zero'] at hx184_0)
       (try rw [show ((0 : Int)).toNat = 0 from rfl] at hx184_1)
       (try rw [show 0 * 4 = 0 from rfl] at hx184_1)
       (try rw [Addr.add_zero'] at hx184_1)
       (try rw [show ((0 : Int)).toNat = 0 from rfl] at hx184_2)
       (try rw [show 0 * 4 = 0 from rfl] at hx184_2)
       (try rw [Addr.add_zero'] at hx184_2)
       (try rw [show ((0 : Int)).toNat = 0 from rfl] at hx184_3)
       (try rw [show 0 * 4 = 0 from rfl] at hx184_3)
       (try rw [Addr.add_zero'] at hx184_3)
       replace hx184_0 := hcB HB.out hx184_0
       replace hx184_1 := hcB HB.out hx184_1
       replace hx184_2 := hcB HB.out hx184_2
       replace hx184_3 := hcB HB.out hx184_3
       have HR184_3 := Aside0.mk hi184_3
       have HC184_3 := Aside0.mk hl184_3
       clear hi184_3 hl184_3
       replace p184 := eq_true p184
       replace q184 := eq_true q184
       go_wp2
       go_ret
       exact ⟨re, bl⟩
      ·obtain rfl := Option.some.inj H
       have hnb29 := NB177_182.out
       have hnc29 := NB182_177.out
       obtain ⟨hcz30_0, hcz30_1, hcz30_2, hcz30_3, hfz30_0, hfz30_1, hfz30_2, hfz30_3⟩ := cz4f BK177.out
       have p183 : 0 ≤ (3 : Int) := (by omega)
       have q183 : 3 < (l0_3.length : Int) := dt
       obtain ⟨ad183, A183_3, c183_3, e183, hx183_0, hx183_1, hx183_2, hx183_3, hl183_3, hi183_3⟩ := at_T33 HR0_3.out 3 p183 q183
       cases e183
       (try simp only [show (3 : Int).toNat = 3 from rfl, Nat.reduceMul, Nat.reduceEqDiff, Go.Addr.add, ↓reduceIte] at hx183_0)
       (try simp only [show (3 : Int).toNat = 3 from rfl, Nat.reduceMul, Nat.reduceEqDiff, Go.Addr.add, ↓reduceIte] at hx183_1)
       (try simp only [show (3 : Int).toNat = 3 from rfl, Nat.reduceMul, Nat.reduceEqDiff, Go.Addr.add, ↓reduceIte] at hx183_2)
       (try simp only [show (3 : Int).toNat = 3 from rfl, Nat.reduceMul, Nat.reduceEqDiff, Go.Addr.add, ↓reduceIte] at hx183_3)
       have qi183 : (3 < l0_3.length) = True := eq_true (by omega)
       (try rw [show ((3 : Int)).toNat = 3 from rfl] at hx183_0)
       (try rw [show 3 * 4 = 12 from rfl] at hx183_0)
       (try rw [show ((3 : Int)).toNat = 3 from rfl] at hx183_1)
       (try rw [show 3 * 4 = 12 from rfl] at hx183_1)
       (try rw [show ((3 : Int)).toNat = 3 from rfl] at hx183_2)
       (try rw [show 3 * 4 = 12 from rfl] at hx183_2)
       (try rw [show ((3 : Int)).toNat = 3 from rfl] at hx183_3)
       (try rw [show 3 * 4 = 12 from rfl] at hx183_3)
       replace hx183_0 := hcB HB.out hx183_0
       replace hx183_1 := hcB HB.out hx183_1
       replace hx183_2 := hcB HB.out hx183_2
       replace hx183_3 := hcB HB.out hx183_3
       have HR183_3 := Aside0.mk hi183_3
       have HC183_3 := Aside0.mk hl183_3
       clear hi183_3 hl183_3
       replace p183 := eq_true p183
       replace q183 := eq_true q183
       have p184 : 0 ≤ (0 : Int) := (by omega)
       have q184 : 0 < (((rd_T33 l0_3 3).f3).length : Int) := dt
       obtain ⟨ad184, A184_3, c184_3, e184, hx184_0, hx184_1, hx184_2, hx184_3, hl184_3, hi184_3⟩ := at_T33 HR183_3.out 0 p184 q184
       cases e184
       have qi184 : (0 < ((rd_T33 l0_3 3).f3).length) = True := eq_true (by omega)
       (try rw [show ((0 : Int)).toNat = 0 from rfl] at hx184_0)
       (try rw [show 0 * 4 = 0 from rfl] at hx184_0)
       (try rw [Addr.add_zero'] at hx184_0)
       (try rw [show ((0 : Int)).toNat = 0 from rfl] at hx184_1)
       (try rw [show 0 * 4 = 0 from rfl] at hx184_1)
       (try rw [Addr.add_zero'] at hx184_1)
       (try rw [show ((0 : Int)).toNat = 0 from rfl] at hx184_2)
       (try rw [show 0 * 4 = 0 from rfl] at hx184_2)
       (try rw [Addr.add_zero'] at hx184_2)
       (try rw [show ((0 : Int)).toNat = 0 from rfl] at hx184_3)
       (try rw [show 0 * 4 = 0 from rfl] at hx184_3)
       (try rw [Addr.add_zero'] at hx184_3)
       replace hx184_0 := hcB HB.out hx184_0
       replace hx184_1 := hcB HB.out hx184_1
       replace hx184_2 := hcB HB.out hx184_2
       replace hx184_3 := hcB HB.out hx184_3
       have HR184_3 := Aside0.mk hi184_3
       have HC184_3 := Aside0.mk hl184_3
       clear hi184_3 hl184_3
       replace p184 := eq_true p184
       replace q184 := eq_true q184
       obtain ⟨hcz31_0, hcz31_1, hcz31_2, hcz31_3, hfz31_0, hfz31_1, hfz31_2, hfz31_3⟩ := cz4f BK182.out
       go_wp2
       repeat (go_quiet (fail); try go_wp2)
       go_ret
       exact ⟨re, bl⟩
     ·rw [if_neg c25] at H
      exact absurd H (by simp)
    ·rw [if_neg c24] at H
     exact absurd H (by simp)
theorem choose2 {α β : Type} [Inhabited α] [Inhabited β] {p : Nat → α → β → Prop} (n : Nat) (h : ∀ j, j < n → ∃ a b, p j a b) : ∃ (f : Nat → α) (g : Nat → β), ∀ j, j < n → p j (f j) (g j) := by
 classical
 refine ⟨fun j => if hj : j < n then (h j hj).choose else default, fun j => if hj : j < n then (h j hj).choose_spec.choose else default, fun j hj => ?_⟩
 simp only [dif_pos hj]
 exact (h j hj).choose_spec.choose_spec
section
attribute [local go_sem] Oper.semAt_some
set_option maxRecDepth 100000 in
set_option maxHeartbeats 4000000 in
theorem back1_in (n : Nat) (hn : 1 ≤ n) (l Bs n₁ cap N : Nat) (ad : Addr) (c0 c1 c2 c3 : Nat → Value) (hlen : N ≤ 9223372036854775807) (hBs : Bs < n₁) (hb : ad.block < n₁)
  (J Jx : List {j : Nat // j < N} → World → Prop)
  (hY : ∀ pre x W, J pre W → pre.length < N → YieldAt Fence.wide (n - 1) Tryd.prog l #[.int .i64 (x.1 : Int), .agg #[c0 x.1, c1 x.1, c2 x.1, c3 x.1]] W fun e W' =>
   (e = .returned (.bool true) ∧ J (pre ++ [x]) W' ∧ Below n₁ W W') ∨ (e = .returned (.bool false) ∧ Jx (pre ++ [x]) W'))
  (W : World) (A : Option Addr) (hA : ∀ j, j < N → A = some ad) (hs : W.cell? ⟨Bs, 0, none⟩ = some (.slice A N cap))
  (hc : ∀ j : Nat, j < N → W.cell? (ad.add (j * 4)) = some (c0 j) ∧ W.cell? ⟨(ad.add (j * 4)).block, (ad.add (j * 4)).off + 1, none⟩ = some (c1 j) ∧ W.cell? ⟨(ad.add (j * 4)).block, (ad.add (j * 4)).off + 2, none⟩ = some (c2 j) ∧ W.cell? ⟨(ad.add (j * 4)).block, (ad.add (j * 4)).off + 3, none⟩ = some (c3 j)) (h0 : J [] W) :
  CallsIn Fence.wide n Tryd.prog 70 #[.func (.yield l) #[] #[], .pointer (some ⟨Bs, 0, none⟩)] W fun e W' => (∃ v, e = .returned v) ∧
   ((∃ ys, (∀ j, j < N → ∃ y ∈ ys, y.1 = j) ∧ J ys W') ∨ (∃ pre, (∃ q x, pre = q ++ [x] ∧ ∀ j, x.1 < j → j < N → ∃ y ∈ q, y.1 = j) ∧ Jx pre W')) := by
 refine callsIn_of_wp Tryd.func70 rfl trivial ?_ rfl
 simp only [Tryd.ntmps70, List.size_toArray, List.length_cons, List.length_nil, Nat.reduceAdd, Nat.reduceSub, Array.replicate_succ, Array.replicate_zero, List.push_toArray, List.append_toArray, List.nil_append, List.cons_append]
 have hu33 := Tryd.underlying33
 have hb' : ∀ k, (ad.add k).block < n₁ := fun k => by rw [add_block]; exact hb
 gi_wp2
 gi_loopw [3] (fun i wr => ∃ (m : Nat) (v : Int) (pre : List {j : Nat // j < N}), Aside0 (m ≤ N) ∧ i = .int .i64 v ∧ v = (m : Int) - 1 ∧ Aside0 (pre.length + m = N) ∧ Aside0 (∀ j, m ≤ j → j < N → ∃ y ∈ pre, y.1 = j) ∧ Aside0 (J pre wr) ∧ Aside0 (Below n₁ W wr)) (fun i _ => (intOf i + 1).toNat)
 case atStart => exact ⟨N, _, [], ⟨Nat.le_refl _⟩, rfl, by first | rfl | (unfold wrap64; omega), ⟨by simp⟩, ⟨fun j h1 h2 => by omega⟩, ⟨h0⟩, ⟨Below.refl _ _⟩⟩
 case round =>
  obtain ⟨m, v, pre, HM, rfl, hv, HP, HALL, HJ, HB⟩ := hrel
  cases m with
  | zero =>
   have hv1 : decide (0 ≤ v) = false := decide_eq_false (by omega)
   clear hv
   gi_wp2
   go_end0
   exact ⟨⟨_, rfl⟩, .inl ⟨pre, fun j hj => HALL.out j (Nat.zero_le _) hj, HJ.out⟩⟩
  | succ m =>
   obtain rfl : v = (m : Int) := by omega
   clear hv
   have hlt : m < N := HM.out
   obtain rfl := hA m hlt
   clear hA
   obtain ⟨y0, y1, y2, y3⟩ := hc m hlt
   have x0 := (HB.out.cell (p := ad.add (m * 4)) (hb' _)).trans y0
   have x1 := (HB.out.cell (p := ⟨(ad.add (m * 4)).block, (ad.add (m * 4)).off + 1, none⟩) (hb' _)).trans y1
   have x2 := (HB.out.cell (p := ⟨(ad.add (m * 4)).block, (ad.add (m * 4)).off + 2, none⟩) (hb' _)).trans y2
   have x3 := (HB.out.cell (p := ⟨(ad.add (m * 4)).block, (ad.add (m * 4)).off + 3, none⟩) (hb' _)).trans y3
   have hs' := (HB.out.cell (p := ⟨Bs, 0, none⟩) hBs).trans hs
   clear y0 y1 y2 y3 hc hs
   obtain ⟨fn, tmps, assign, body, hy, hR⟩ := hY pre ⟨m, hlt⟩ wr HJ.out (by have := HP.out; omega)
   clear hY
   dsimp only at hy
   have p1 : (0 ≤ (m : Int)) = True := eq_true (by omega)
   have p2 : ((m : Int) < (N : Int)) = True := eq_true (by omega)
   have HR := Aside0.mk hR
   clear hR
   gi_wp2
   refine HR.out.mono ?_
   rintro e W3 (⟨rfl, hJ3, hk3⟩ | ⟨rfl, hJx3⟩)
   ·have HK3 := aC hJ3 (aE hk3)
    clear hJ3 hk3
    gi_wp2
    go_roundw
    case rel => exact ⟨m, _, pre ++ [⟨m, hlt⟩], ⟨by omega⟩, rfl, by first | rfl | (unfold wrap64; omega), ⟨by have := HP.out; rw [List.length_append, List.length_singleton]; omega⟩, ⟨fun j h1 h2 => by
     by_cases e : j = m
     ·exact ⟨⟨m, hlt⟩, by simp, e.symm⟩
     ·obtain ⟨y, hy1, hy2⟩ := HALL.out j (by omega) h2
      exact ⟨y, List.mem_append.2 (.inl hy1), hy2⟩⟩, HK3.1, ⟨HB.out.trans HK3.2.out⟩⟩
    case measure => first | (simp [intOf]; done) | (simp [intOf]; omega) | (simp [intOf]; unfold wrap64; omega)
   ·gi_wp2
    refine bodyPost_ret (results_none rfl _ _ _) rfl ?_
    exact ⟨⟨_, rfl⟩, .inr ⟨_, ⟨pre, ⟨m, hlt⟩, rfl, fun j h1 h2 => HALL.out j (by have : m < j := h1; omega) h2⟩, hJx3⟩⟩
theorem back_stops (n : Nat) (hn : 1 ≤ n) (Bs n₁ cap N : Nat) (ad : Addr) (A : Option Addr) (c0 c1 c2 c3 : Nat → Value) (hlen : N ≤ 9223372036854775807) (hBs : Bs < n₁) (w : World) (hw : n₁ ≤ w.heap.size) (hb : 0 < N → ad.block < n₁) (hA : ∀ j, j < N → A = some ad) (hs : w.cell? ⟨Bs, 0, none⟩ = some (.slice A N cap))
  (hc : ∀ j : Nat, j < N → w.cell? (ad.add (j * 4)) = some (c0 j) ∧ w.cell? ⟨(ad.add (j * 4)).block, (ad.add (j * 4)).off + 1, none⟩ = some (c1 j) ∧ w.cell? ⟨(ad.add (j * 4)).block, (ad.add (j * 4)).off + 2, none⟩ = some (c2 j) ∧ w.cell? ⟨(ad.add (j * 4)).block, (ad.add (j * 4)).off + 3, none⟩ = some (c3 j)) :
  SeqStopsK Fence.wide n Tryd.prog 70 #[.pointer (some ⟨Bs, 0, none⟩)] (fun x : {j : Nat // j < N} => #[.int .i64 (x.1 : Int), .agg #[c0 x.1, c1 x.1, c2 x.1, c3 x.1]]) (Below n₁)
   (fun ys => ∀ j, j < N → ∃ y ∈ ys, y.1 = j) (fun pre => ∃ q x, pre = q ++ [x] ∧ ∀ j, x.1 < j → j < N → ∃ y ∈ q, y.1 = j) N w := fun l J Jx W hW _ _ hY h0 => by
 have hm : ∀ p v, w.cell? p = some v → W.cell? p = some v := fun p v h => (hW.cell (World.block_lt_of_cell? w _ h)).trans h
 by_cases hz : 0 < N
 ·exact back1_in n hn l Bs n₁ cap N ad c0 c1 c2 c3 hlen hBs (hb hz) J Jx hY W A hA (hm _ _ hs) (fun j hj => by
   obtain ⟨h0, h1, h2, h3⟩ := hc j hj
   exact ⟨hm _ _ h0, hm _ _ h1, hm _ _ h2, hm _ _ h3⟩) h0
 ·exact back1_in n hn l Bs n₁ cap N ⟨0, 0, none⟩ c0 c1 c2 c3 hlen hBs (by show 0 < n₁; omega) J Jx hY W A (fun j hj => by omega) (hm _ _ hs) (fun j hj => by omega) h0
set_option maxHeartbeats 1000000 in
theorem back_in (n : Nat) (A : Option Addr) (len cap : Nat) (w : World) :
  CallsIn Fence.wide n Tryd.prog 48 #[.slice A len cap] w fun e w' => e = .returned (.func (.func 70) #[] #[.pointer (some ⟨w.heap.size, 0, none⟩)]) ∧ w' = w.alloc (.cells #[.slice A len cap] 31) := by
 refine callsIn_of_wp Tryd.func48 rfl trivial ?_ rfl
 simp only [Tryd.ntmps48, List.size_toArray, List.length_cons, List.length_nil, Nat.reduceAdd, Nat.reduceSub, Array.replicate_succ, Array.replicate_zero, List.push_toArray, List.append_toArray, List.nil_append, List.cons_append]
 gi_wp2
 go_ret
 exact ⟨rfl, rfl⟩
end
def note_Hit.l0 (k : Nat) (l : List (S33)) (x y : Int) : Nat → Option (ByteArray × Int)
 | 0 => some ((⟨#[]⟩ : ByteArray), 5)
 | n + 1 => (note_Hit.l0 k l x y n).bind fun r => (note_has.f k ((rd_T33 l (n : Int)).f0) ((rd_T33 l (n : Int)).f1) ((rd_T33 l (n : Int)).f2) ((rd_T33 l (n : Int)).f3) x y).bind fun t => if t = true then (if 1 < (((rd_T33 l (n : Int)).f3).length : Int) then some ((rd_T33 ((rd_T33 l (n : Int)).f3) 1).f1, 0) else none) else some r
def note_Hit.f (k : Nat) (a0_0 : Int) (a0_1 : ByteArray) (a0_2 : Int) (l0_3 : List (S33)) (a1 a2 : Int) : Option (ByteArray × Int) := if l0_3.length ≤ 9223372036854775807 then ((note_IsNotes.f k a0_0 a0_1 a0_2 l0_3).bind fun t => if t = true then note_Hit.l0 k l0_3 a1 a2 l0_3.length else some ((⟨#[]⟩ : ByteArray), 95)) else none
theorem note_Hit.l0_mono (l : List (S33)) (x y : Int) (k : Nat) : ∀ n, LeO (note_Hit.l0 k l x y n) (note_Hit.l0 (k + 1) l x y n)
 | 0 => LeO.refl _
 | n + 1 => LeO.bind (note_Hit.l0_mono l x y k n) (fun _ => LeO.bind (note_has.mono _ _ _ _ _ _ k) (fun _ => LeO.refl _))
theorem note_Hit.mono : ∀ a0 a1 a2 a3 a4 a5 k, LeO (note_Hit.f k a0 a1 a2 a3 a4 a5) (note_Hit.f (k + 1) a0 a1 a2 a3 a4 a5) := by
 intro a0 a1 a2 a3 a4 a5 k
 unfold note_Hit.f
 exact LeO.ite (LeO.bind (note_IsNotes.mono _ _ _ _ k) (fun _ => LeO.ite (note_Hit.l0_mono _ _ _ k _) (LeO.refl _))) (LeO.refl _)
def hasAt (k : Nat) (l : List (S33)) (x y : Int) (j : Nat) : Option Bool := note_has.f k ((rd_T33 l (j : Int)).f0) ((rd_T33 l (j : Int)).f1) ((rd_T33 l (j : Int)).f2) ((rd_T33 l (j : Int)).f3) x y
theorem hit_all (k : Nat) (l : List (S33)) (x y : Int) : ∀ (n : Nat) r, note_Hit.l0 k l x y n = some r → ∀ j, j < n → ∃ t, hasAt k l x y j = some t ∧ (t = true → 1 < (((rd_T33 l (j : Int)).f3).length : Int))
 | 0, _, _, j, hj => by omega
 | n + 1, r, h, j, hj => by
  unfold note_Hit.l0 at h
  obtain ⟨r1, h1, h⟩ := Option.bind_eq_some_iff.1 h
  obtain ⟨t, h2, h⟩ := Option.bind_eq_some_iff.1 h
  by_cases e : j = n
  ·subst e
   refine ⟨t, h2, fun ht => ?_⟩
   rw [if_pos ht] at h
   by_cases c : 1 < (((rd_T33 l (j : Int)).f3).length : Int)
   ·exact c
   ·rw [if_neg c] at h
    cases h
  ·exact hit_all k l x y n r1 h1 j (by omega)
theorem hit_none (k : Nat) (l : List (S33)) (x y : Int) : ∀ (n : Nat) r, note_Hit.l0 k l x y n = some r → (∀ j, j < n → hasAt k l x y j = some false) → r = ((⟨#[]⟩ : ByteArray), 5)
 | 0, r, h, _ => (Option.some.inj h).symm
 | n + 1, r, h, ha => by
  unfold note_Hit.l0 at h
  obtain ⟨r1, h1, h⟩ := Option.bind_eq_some_iff.1 h
  obtain ⟨t, h2, h⟩ := Option.bind_eq_some_iff.1 h
  have e := (ha n (by omega)).symm.trans h2
  cases e
  rw [if_neg (by decide)] at h
  cases h
  exact hit_none k l x y n _ h1 (fun j hj => ha j (by omega))
theorem hit_at (k : Nat) (l : List (S33)) (x y : Int) : ∀ (n : Nat) r, note_Hit.l0 k l x y n = some r → ∀ j, j < n → hasAt k l x y j = some true → (∀ i, j < i → i < n → hasAt k l x y i = some false) → r = ((rd_T33 ((rd_T33 l (j : Int)).f3) 1).f1, 0)
 | 0, _, _, j, hj, _, _ => by omega
 | n + 1, r, h, j, hj, ht, ha => by
  unfold note_Hit.l0 at h
  obtain ⟨r1, h1, h⟩ := Option.bind_eq_some_iff.1 h
  obtain ⟨t, h2, h⟩ := Option.bind_eq_some_iff.1 h
  by_cases e : j = n
  ·subst e
   have e := ht.symm.trans h2
   cases e
   rw [if_pos rfl] at h
   by_cases c : 1 < (((rd_T33 l (j : Int)).f3).length : Int)
   ·rw [if_pos c] at h
    exact (Option.some.inj h).symm
   ·rw [if_neg c] at h
    cases h
  ·have e := (ha n (by omega) (by omega)).symm.trans h2
   cases e
   rw [if_neg (by decide)] at h
   cases h
   exact hit_at k l x y n _ h1 j (by omega) ht (fun i h3 h4 => ha i h3 (by omega))
theorem five_in (w : World) (o1 o2 o3 o4 o5 : Obj) (W : World) (hb : Below (((((w.alloc o1).alloc o2).alloc o3).alloc o4).alloc o5).heap.size (((((w.alloc o1).alloc o2).alloc o3).alloc o4).alloc o5) W) :
  W.heap[w.heap.size]? = some o1 ∧ W.heap[w.heap.size + 1]? = some o2 ∧ W.heap[w.heap.size + 1 + 1]? = some o3 ∧ W.heap[w.heap.size + 1 + 1 + 1]? = some o4 ∧ W.heap[w.heap.size + 1 + 1 + 1 + 1]? = some o5 ∧ Below w.heap.size w W ∧ w.heap.size + 5 ≤ W.heap.size := by
 have b1 := blk_new w o1
 have b2 := blk_new (w.alloc o1) o2
 have b3 := blk_new ((w.alloc o1).alloc o2) o3
 have b4 := blk_new (((w.alloc o1).alloc o2).alloc o3) o4
 have b5 := blk_new ((((w.alloc o1).alloc o2).alloc o3).alloc o4) o5
 simp only [World.size_alloc] at b1 b2 b3 b4 b5
 have up : ∀ {X : World} {g : Nat} {o : Obj} (o' : Obj), X.heap[g]? = some o → (X.alloc o').heap[g]? = some o := fun o' h => blk_below h (below_alloc (Below.refl _ _) o')
 have hz := hb.size
 simp only [World.size_alloc] at hz
 refine ⟨blk_below (up o5 (up o4 (up o3 (up o2 b1)))) hb, blk_below (up o5 (up o4 (up o3 b2))) hb, blk_below (up o5 (up o4 b3)) hb, blk_below (up o5 b4) hb, blk_below b5 hb, ?_, by omega⟩
 exact below_step (below_alloc (below_alloc (below_alloc (below_alloc (below_alloc (Below.refl _ _) _) _) _) _) _) hb
theorem elems (w : World) (A : Option Addr) (L : List (S33)) (h : Kd.C k33 w A L.length L) : ∃ (ad : Addr) (fA : Nat → Option Addr) (fc : Nat → Nat), (∀ j, j < L.length → A = some ad) ∧ (0 < L.length → ad.block < w.heap.size) ∧
  ∀ j : Nat, j < L.length → (w.cell? (ad.add (j * 4)) = some (.int .i64 (rd_T33 L (j : Int)).f0) ∧ w.cell? ⟨(ad.add (j * 4)).block, (ad.add (j * 4)).off + 1, none⟩ = some (.string (rd_T33 L (j : Int)).f1) ∧ w.cell? ⟨(ad.add (j * 4)).block, (ad.add (j * 4)).off + 2, none⟩ = some (.int .i64 (rd_T33 L (j : Int)).f2) ∧ w.cell? ⟨(ad.add (j * 4)).block, (ad.add (j * 4)).off + 3, none⟩ = some (.slice (fA j) (rd_T33 L (j : Int)).f3.length (fc j))) ∧ (rd_T33 L (j : Int)).f3.length ≤ fc j ∧ Kd.C k33 w (fA j) (rd_T33 L (j : Int)).f3.length (rd_T33 L (j : Int)).f3 := by
 by_cases hz : 0 < L.length
 ·obtain ⟨ad, _, _, e, x0, _⟩ := at_T33 h 0 (by omega) (by omega)
  have hk : ad.block < w.heap.size := by
   have h1 := World.block_lt_of_cell? w _ x0
   rwa [add_block] at h1
  obtain ⟨fA, fc, hf⟩ := choose2 (p := fun (j : Nat) (B : Option Addr) (d : Nat) => (w.cell? (ad.add (j * 4)) = some (.int .i64 (rd_T33 L (j : Int)).f0) ∧ w.cell? ⟨(ad.add (j * 4)).block, (ad.add (j * 4)).off + 1, none⟩ = some (.string (rd_T33 L (j : Int)).f1) ∧ w.cell? ⟨(ad.add (j * 4)).block, (ad.add (j * 4)).off + 2, none⟩ = some (.int .i64 (rd_T33 L (j : Int)).f2) ∧ w.cell? ⟨(ad.add (j * 4)).block, (ad.add (j * 4)).off + 3, none⟩ = some (.slice B (rd_T33 L (j : Int)).f3.length d)) ∧ (rd_T33 L (j : Int)).f3.length ≤ d ∧ Kd.C k33 w B (rd_T33 L (j : Int)).f3.length (rd_T33 L (j : Int)).f3) L.length (fun j hj => by
   obtain ⟨ad', B, d, e', y0, y1, y2, y3, hl, hi⟩ := at_T33 h (j : Int) (by omega) (by omega)
   obtain rfl : ad' = ad := Option.some.inj (e'.symm.trans e)
   simp only [Int.toNat_natCast] at y0 y1 y2 y3
   exact ⟨B, d, ⟨y0, y1, y2, y3⟩, hl, hi⟩)
  exact ⟨ad, fA, fc, fun j _ => e, fun _ => hk, hf⟩
 ·exact ⟨⟨0, 0, none⟩, fun _ => none, fun _ => 0, fun j hj => by omega, fun h => absurd h hz, fun j hj => by omega⟩
theorem fill4 (W : World) (t : TypeId) (z0 z1 z2 z3 u0 u1 u2 u3 : Value) : let W1 := ((((W.alloc (.cells #[z0, z1, z2, z3] t)).setCell ⟨W.heap.size, 0, none⟩ u0).setCell ⟨W.heap.size, 1, none⟩ u1).setCell ⟨W.heap.size, 2, none⟩ u2).setCell ⟨W.heap.size, 3, none⟩ u3
  W1.heap[W.heap.size]? = some (.cells #[u0, u1, u2, u3] t (0, 0)) ∧ Below W.heap.size W W1 ∧ KeepsOthers W W1 := by
 intro W1
 have b0 := blk_new W (.cells #[z0, z1, z2, z3] t)
 have b1 := blk_put (cs := #[z0, z1, z2, z3]) b0 0 u0 rfl
 have b2 := blk_put (cs := #[u0, z1, z2, z3]) b1 1 u1 rfl
 have b3 := blk_put (cs := #[u0, u1, z2, z3]) b2 2 u2 rfl
 refine ⟨blk_put (cs := #[u0, u1, u2, z3]) b3 3 u3 rfl, below_set (below_set (below_set (below_set (below_alloc (Below.refl _ _) _) (Nat.le_refl _)) (Nat.le_refl _)) (Nat.le_refl _)) (Nat.le_refl _), ?_⟩
 exact ((((KeepsOthers.alloc W _).trans (KeepsOthers.setCell _ _ _)).trans (KeepsOthers.setCell _ _ _)).trans (KeepsOthers.setCell _ _ _)).trans (KeepsOthers.setCell _ _ _)
theorem set2 {W w : World} {g6 g7 : Nat} {t6 t7 : TypeId} {c6 c7 : Value} (h6 : W.heap[g6]? = some (.cells #[c6] t6 (0, 0))) (h7 : W.heap[g7]? = some (.cells #[c7] t7 (0, 0))) (hne : g6 ≠ g7) (u v : Value) (hB : Below w.heap.size w W) (l6 : w.heap.size ≤ g6) (l7 : w.heap.size ≤ g7) :
  ((W.setCell ⟨g6, 0, none⟩ u).setCell ⟨g7, 0, none⟩ v).heap[g6]? = some (.cells #[u] t6 (0, 0)) ∧ ((W.setCell ⟨g6, 0, none⟩ u).setCell ⟨g7, 0, none⟩ v).heap[g7]? = some (.cells #[v] t7 (0, 0)) ∧ Below w.heap.size w ((W.setCell ⟨g6, 0, none⟩ u).setCell ⟨g7, 0, none⟩ v) ∧ KeepsOthers W ((W.setCell ⟨g6, 0, none⟩ u).setCell ⟨g7, 0, none⟩ v) :=
 ⟨(Below.heap_setCell _ ⟨g7, 0, none⟩ v g6 hne).trans (blk_put (cs := #[c6]) h6 0 u rfl), blk_put (cs := #[c7]) ((Below.heap_setCell W ⟨g6, 0, none⟩ u g7 (fun e => hne e.symm)).trans h7) 0 v rfl, below_set (below_set hB l6) l7, (KeepsOthers.setCell _ _ _).trans (KeepsOthers.setCell _ _ _)⟩
section
attribute [local go_sem] Oper.semAt_some
set_option maxRecDepth 100000 in
set_option maxHeartbeats 2000000 in
theorem note_Hit.calls (k : Nat) (a0_0 : Int) (a0_1 : ByteArray) (a0_2 : Int) (A0_3 : Option Addr) (c0_3 : Nat) (l0_3 : List (S33)) (a1 : Int) (a2 : Int) (r1 : ByteArray) (r2 : Int) (w : World) (hr0_3 : Kd.C k33 w A0_3 l0_3.length l0_3) (hc0_3 : l0_3.length ≤ c0_3) (h : note_Hit.f k a0_0 a0_1 a0_2 l0_3 a1 a2 = some (r1, r2)) :
  Calls Tryd.prog 21 #[.agg #[.int .i64 a0_0, .string a0_1, .int .i64 a0_2, .slice A0_3 l0_3.length c0_3], .int .i64 a1, .int .i64 a2] w fun e w' => e = .returned (.tuple #[.string r1, .int .i64 r2]) ∧ Below w.heap.size w w' := by
 refine (callsIn_wide (n := 6)).1 ?_
 refine callsIn_of_wp_marks Tryd.func21 rfl trivial ?_ rfl
 simp only [Tryd.ntmps21, List.size_toArray, List.length_cons, List.length_nil, Nat.reduceAdd, Nat.reduceSub, Array.replicate_succ, Array.replicate_zero, List.push_toArray, List.append_toArray, List.nil_append, List.cons_append]
 have hu33 := Tryd.underlying33
 unfold note_Hit.f at h
 have hlen : l0_3.length ≤ 9223372036854775807 := by
  by_cases c : l0_3.length ≤ 9223372036854775807
  ·exact c
  ·rw [if_neg c] at h
   cases h
 rw [if_pos hlen] at h
 obtain ⟨v, A1, h⟩ := oB h
 have HR0 := Aside0.mk hr0_3
 have HC0 := Aside0.mk hc0_3
 have HLEN := Aside0.mk hlen
 clear hr0_3 hc0_3 hlen
 by_cases c : v = true
 ·rw [if_pos c] at h
  subst c
  have H := Aside0.mk h
  clear h
  gi_wp2_with (first | (refine ⟨trivial, ?_⟩; gi_at_call 19; refine (callsIn_wide.2 (note_IsNotes.calls k a0_0 a0_1 a0_2 _ _ l0_3 true _ ?side1 ?side2 A1.out)).mono ?_; (case side1 => exact cU HR0.out); (case side2 => exact HC0.out); rintro e w6 ⟨rfl, hb⟩; have F6 := Aside0.mk (five_in w _ _ _ _ _ w6 hb); have z3 := blk_cell F6.out.1 3; clear hb) | (refine ⟨trivial, ?_⟩; gi_at_call 48; refine (back_in _ _ _ _ _).mono ?_; rintro e w7 ⟨rfl, rfl⟩))
  have hg0 := F6.out
  have FS := blk_new w6 (.cells #[.slice A0_3 l0_3.length c0_3] 31)
  have hsz : (w6.alloc (.cells #[.slice A0_3 l0_3.length c0_3] 31)).heap.size = w6.heap.size + 1 := by simp
  have hb7 : Below w6.heap.size w6 (w6.alloc (.cells #[.slice A0_3 l0_3.length c0_3] 31)) := below_alloc (Below.refl _ _) _
  obtain ⟨W0, hW0⟩ : ∃ W0, w6.alloc (.cells #[.slice A0_3 l0_3.length c0_3] 31) = W0 := ⟨_, rfl⟩
  rw [hW0] at FS hsz hb7 ⊢
  clear hW0
  have G : Aside0 (W0.heap[w.heap.size + 1]? = some (.cells #[.int .i64 a1] 3 (0, 0)) ∧ W0.heap[w.heap.size + 1 + 1]? = some (.cells #[.int .i64 a2] 3 (0, 0)) ∧ W0.heap[w.heap.size + 1 + 1 + 1]? = some (.cells #[.string ⟨#[]⟩] 9 (0, 0)) ∧ W0.heap[w.heap.size + 1 + 1 + 1 + 1]? = some (.cells #[.int .i64 0] 26 (0, 0)) ∧ Below w.heap.size w W0 ∧ w.heap.size + 6 ≤ W0.heap.size) :=
   ⟨blk_below hg0.2.1 hb7, blk_below hg0.2.2.1 hb7, blk_below hg0.2.2.2.1 hb7, blk_below hg0.2.2.2.2.1 hb7, below_step hg0.2.2.2.2.2.1 hb7, by have := hg0.2.2.2.2.2.2; omega⟩
  have hg6 := hg0.2.2.2.2.2.2
  clear F6 z3 hg0 hb7
  obtain ⟨ad, fA, fc, hA, hab, hel⟩ := elems w A0_3 l0_3 HR0.out
  have mv : ∀ p v, w.cell? p = some v → W0.cell? p = some v := fun p v h => (G.out.2.2.2.2.1.cell (World.block_lt_of_cell? w _ h)).trans h
  refine wpIn_rangeFunc_ownH rfl (by omega) (gf := 70) (lb := #[.pointer (some ⟨w6.heap.size, 0, none⟩)]) rfl trivial (enters_of Tryd.func70 (by kernel_rfl) rfl)
   (back_stops 5 (by omega) w6.heap.size W0.heap.size c0_3 l0_3.length ad A0_3 (fun j => .int .i64 (rd_T33 l0_3 (j : Int)).f0) (fun j => .string (rd_T33 l0_3 (j : Int)).f1) (fun j => .int .i64 (rd_T33 l0_3 (j : Int)).f2) (fun j => .slice (fA j) (rd_T33 l0_3 (j : Int)).f3.length (fc j)) HLEN.out (by omega) W0 (Nat.le_refl _) (fun hz => by have := hab hz; have := G.out.2.2.2.2.2; omega) hA (blk_cell FS 0)
    (fun j hj => by obtain ⟨⟨h0, h1, h2, h3⟩, _⟩ := hel j hj; exact ⟨mv _ _ h0, mv _ _ h1, mv _ _ h2, mv _ _ h3⟩)) belowK_t (belowK_b (Nat.le_refl _)) (Below.refl _ _) (fun _ => rfl)
   (fun pre W => (∀ x ∈ pre, hasAt k l0_3 a1 a2 x.1 = some false) ∧ Below W0.heap.size W0 W)
   (fun c pre W => (c = .ret ∧ ∃ q x, pre = q ++ [x] ∧ (∀ y ∈ q, hasAt k l0_3 a1 a2 y.1 = some false) ∧ hasAt k l0_3 a1 a2 x.1 = some true ∧ W.heap[w.heap.size + 1 + 1 + 1]? = some (.cells #[.string (rd_T33 ((rd_T33 l0_3 (x.1 : Int)).f3) 1).f1] 9 (0, 0)) ∧ W.heap[w.heap.size + 1 + 1 + 1 + 1]? = some (.cells #[.int .i64 0] 26 (0, 0))) ∧ Below w.heap.size w W)
   (OwnFrom.and (ownFrom_pure _ _) (ownFrom_below (Nat.le_refl _) (Nat.le_refl _)))
   (fun c pre X Y row hs hg hr => by
    obtain ⟨⟨rfl, q, x, e, hq, hx, h6, h7⟩, hB⟩ := hs
    have hgG := G.out.2.2.2.2.2
    exact ⟨⟨rfl, q, x, e, hq, hx, (hg.block _ (blk_lt h6) (fun e => by have := (hr _ e.symm).1; omega)).trans h6, (hg.block _ (blk_lt h7) (fun e => by have := (hr _ e.symm).1; omega)).trans h7⟩, ownFrom_below (β := Unit) (Nat.le_refl _) (by omega : w.heap.size ≤ W0.heap.size) () X Y row hB hg hr⟩)
   ⟨fun x hx => (by cases hx), Below.refl _ _⟩
   (fun x a' W => ∃ Bx, W0.heap.size ≤ Bx ∧ W.heap[Bx]? = some (.cells #[.int .i64 (rd_T33 l0_3 (x.1 : Int)).f0, .string (rd_T33 l0_3 (x.1 : Int)).f1, .int .i64 (rd_T33 l0_3 (x.1 : Int)).f2, .slice (fA x.1) (rd_T33 l0_3 (x.1 : Int)).f3.length (fc x.1)] 33 (0, 0)) ∧
    a' = { tmps := #[.agg #[.int .i64 a0_0, .string a0_1, .int .i64 a0_2, .slice A0_3 l0_3.length c0_3], .int .i64 a1, .int .i64 a2, .pointer (some ⟨w.heap.size, 0, none⟩), .pointer (some ⟨w.heap.size + 1, 0, none⟩), .pointer (some ⟨w.heap.size + 1 + 1, 0, none⟩), .pointer (some ⟨w.heap.size + 1 + 1 + 1, 0, none⟩), .pointer (some ⟨w.heap.size + 1 + 1 + 1 + 1, 0, none⟩), undef, .pointer (some ⟨Bx, 0, none⟩),
     .agg #[.int .i64 a0_0, .string a0_1, .int .i64 a0_2, .slice A0_3 l0_3.length c0_3], .bool true, .bool false, .pointer (some ⟨w.heap.size, 3, none⟩), .slice A0_3 l0_3.length c0_3, .func (.func 70) #[] #[.pointer (some ⟨w6.heap.size, 0, none⟩)], .int .i64 (x.1 : Int), .agg #[.int .i64 (rd_T33 l0_3 (x.1 : Int)).f0, .string (rd_T33 l0_3 (x.1 : Int)).f1, .int .i64 (rd_T33 l0_3 (x.1 : Int)).f2, .slice (fA x.1) (rd_T33 l0_3 (x.1 : Int)).f3.length (fc x.1)], undef, undef, undef, undef, undef, undef, undef, undef, undef], defers := [] })
   (fun x a' _ X Y row hs hg hr => by
    obtain ⟨Bx, e1, e2, e3⟩ := hs
    exact ⟨Bx, e1, (hg.block Bx (blk_lt e2) (fun e => by obtain ⟨_, o, ho, hc⟩ := hr _ e.symm; rw [e2] at ho; cases ho; cases hc)).trans e2, e3⟩)
   ?assign ?body ?done ?stop
  case assign =>
   rintro l pre x W K ⟨hp, hB1⟩ hK
   have HK := aC hK (aC hp (aE hB1))
   clear hK hp hB1
   gi_wp2
   have hB1 := HK.2.2.out
   exact HK.1.out _ _ ((KeepsOthers.alloc _ _).from _) ((Below.refl W0.heap.size W).alloc hB1.size _) ⟨HK.2.1.out, hB1.alloc hB1.size _⟩ ⟨W.heap.size, hB1.size, blk_new W _, rfl⟩
  case body =>
   rintro l pre x a' W hl _ ⟨hp, hB1⟩ ⟨Bx, hBx, bX, rfl⟩ hlt
   obtain ⟨t, ht, htl⟩ := hit_all k l0_3 a1 a2 l0_3.length _ H.out x.1 x.2
   obtain ⟨_, hcx, hix⟩ := hel x.1 x.2
   have upW : ∀ {g : Nat} {o : Obj}, W0.heap[g]? = some o → W.heap[g]? = some o := fun h => (hB1.block _ (blk_lt h)).trans h
   obtain ⟨y0, _⟩ := cz1f (upW G.out.1)
   obtain ⟨y1, _⟩ := cz1f (upW G.out.2.1)
   obtain ⟨z0, z1, z2, z3⟩ := cz4 bX
   have hBW : Below w.heap.size w W := G.out.2.2.2.2.1.trans (hB1.mono G.out.2.2.2.2.1.size)
   have HP := aC hp (aC hB1 (aC bX (aC hcx (aC hix (aC ht (aC htl (aC hBW (aC hl (aC hBx (aE hlt))))))))))
   clear hp hB1 bX hcx hix ht htl hBW hl hBx hlt upW
   have ko : ∀ {X Y : World}, Below X.heap.size X Y → KeepsOthers X Y := fun h => ⟨h.size, fun g o hk ho => (h.block g (blk_lt hk)).trans hk⟩
   cases t with
   | false =>
    gi_wp2_with (refine ⟨trivial, ?_⟩; gi_at_call 49; refine (CallsIn.inRound l (callsIn_wide.2 (note_has.calls k _ _ _ (fA x.1) (fc x.1) ((rd_T33 l0_3 (x.1 : Int)).f3) a1 a2 false _ (Kd.C_below HP.2.2.2.2.1.out HP.2.2.2.2.2.2.2.1.out) HP.2.2.2.1.out HP.2.2.2.2.2.1.out))).mono ?_; rintro e w8 ⟨rfl, hb⟩; have HB8 := Aside0.mk hb; clear hb)
    have hB1 := HP.2.1.out
    have hb8 := HB8.out.mono hB1.size
    exact ⟨(ko HB8.out).from _, hb8, fun y hy => (List.mem_append.1 hy).elim (HP.1.out y) (fun e => by
     have e2 : y = x := by simpa using e
     rw [e2]
     exact HP.2.2.2.2.2.1.out), hB1.trans hb8⟩
   | true =>
    have hx1 : 1 < (((rd_T33 l0_3 (x.1 : Int)).f3).length : Int) := HP.2.2.2.2.2.2.1.out rfl
    obtain ⟨bd, B2, d2, eB, u0, u1, u2, u3, _, _⟩ := at_T33 HP.2.2.2.2.1.out 1 (by omega) hx1
    have q1 : (1 < (((rd_T33 l0_3 (x.1 : Int)).f3).length : Int)) = True := eq_true hx1
    have U := Aside0.mk u1
    have EB := Aside0.mk eB
    clear u0 u1 u2 u3 hx1 eB
    have TOK := Aside0.mk trivial
    gi_wp2_with (clear TOK; refine ⟨trivial, ?_⟩; gi_at_call 49; refine (CallsIn.inRound l (callsIn_wide.2 (note_has.calls k _ _ _ (fA x.1) (fc x.1) ((rd_T33 l0_3 (x.1 : Int)).f3) a1 a2 true _ (Kd.C_below HP.2.2.2.2.1.out HP.2.2.2.2.2.2.2.1.out) HP.2.2.2.1.out HP.2.2.2.2.2.1.out))).mono ?_; rintro e w8 ⟨rfl, hb⟩; have HB8 := Aside0.mk hb; obtain ⟨z0, z1, z2, z3⟩ := cz4 (blk_below HP.2.2.1.out hb); have u1 : w8.cell? ⟨bd.block, bd.off + 4 + 1, none⟩ = some (.string ((rd_T33 ((rd_T33 l0_3 (x.1 : Int)).f3) 1).f1)) := hcB (HP.2.2.2.2.2.2.2.1.out.trans (hb.mono HP.2.2.2.2.2.2.2.1.out.size)) U.out; rw [EB.out] at z3; have b6 := (hb.block _ (Nat.lt_of_lt_of_le (blk_lt G.out.2.2.1) HP.2.1.out.size)).trans ((HP.2.1.out.block _ (blk_lt G.out.2.2.1)).trans G.out.2.2.1); have b7 := (hb.block _ (Nat.lt_of_lt_of_le (blk_lt G.out.2.2.2.1) HP.2.1.out.size)).trans ((HP.2.1.out.block _ (blk_lt G.out.2.2.2.1)).trans G.out.2.2.2.1); obtain ⟨v6, f6⟩ := cz1f b6; obtain ⟨v7, f7⟩ := cz1f b7; have B67 := aC b6 (aE b7); clear b6 b7 hb)
    have hgG := G.out.2.2.2.2.2
    have S := set2 (w := w) B67.1.out B67.2.out (by omega) (.string ((rd_T33 ((rd_T33 l0_3 (x.1 : Int)).f3) 1).f1)) (.int .i64 0) (HP.2.2.2.2.2.2.2.1.out.trans (HB8.out.mono HP.2.2.2.2.2.2.2.1.out.size)) (by omega) (by omega)
    exact ⟨((ko HB8.out).trans S.2.2.2).from _, ⟨rfl, pre, x, rfl, HP.1.out, HP.2.2.2.2.2.1.out, S.1, S.2.1⟩, S.2.2.1⟩
  case done =>
   rintro D ys W hD hall ⟨hp, hB1⟩ hK
   have hno : ∀ j, j < l0_3.length → hasAt k l0_3 a1 a2 j = some false := fun j hj => by
    obtain ⟨y, hy, e⟩ := hall j hj
    rw [← e]
    exact hp y hy
   obtain ⟨rfl, rfl⟩ := Prod.mk.inj (hit_none k l0_3 a1 a2 l0_3.length _ H.out hno)
   have b6 := (hB1.block _ (blk_lt G.out.2.2.1)).trans G.out.2.2.1
   have b7 := (hB1.block _ (blk_lt G.out.2.2.2.1)).trans G.out.2.2.2.1
   obtain ⟨v6, f6⟩ := cz1f b6
   obtain ⟨v7, f7⟩ := cz1f b7
   have hgG := G.out.2.2.2.2.2
   have S := Aside0.mk (set2 (w := w) b6 b7 (by omega) (.string ⟨#[]⟩) (.int .i64 5) (G.out.2.2.2.2.1.trans (hB1.mono G.out.2.2.2.2.1.size)) (by omega) (by omega))
   have HK := aC hK (aE hD)
   clear b6 b7 hp hall hB1 hno hK hD hgG
   gi_wp2
   have hK' := S.out.2.2.2.same D _ HK.1.out rfl
   have hc6 := cell_kept (blk_cell S.out.1 0) (grownBy_putObj' _ D (.deferred none)) (fun r e => by cases e; exact ⟨_, hK', rfl⟩)
   have hc7 := cell_kept (blk_cell S.out.2.1 0) (grownBy_putObj' _ D (.deferred none)) (fun r e => by cases e; exact ⟨_, hK', rfl⟩)
   refine ⟨by simp, .inl ⟨_, _, rfl, run_takeDeferred hK', ?_⟩⟩
   refine ⟨.tuple #[.string ⟨#[]⟩, .int .i64 5], ?_, rfl, S.out.2.2.1.trans (belowK_b (w := w) (Nat.le_refl _) _ D _ _ (by have := HK.2.out; have := G.out.2.2.2.2.1.size; omega) hK' rfl rfl)⟩
   simp [results, Tryd.f21, go_sem, hc6, hc7]
  case stop =>
   rintro D c pre W hD ⟨q0, x0, e0, hq0⟩ ⟨⟨rfl, q, x, e, hq, hx, h6, h7⟩, hB⟩ hK
   obtain ⟨rfl, e2⟩ := List.append_inj' (e0.symm.trans e) rfl
   obtain rfl : x0 = x := by simpa using e2
   obtain ⟨rfl, rfl⟩ := Prod.mk.inj (hit_at k l0_3 a1 a2 l0_3.length _ H.out x0.1 x0.2 hx (fun i h1 h2 => by
    obtain ⟨y, hy, e⟩ := hq0 i h1 h2
    rw [← e]
    exact hq y hy))
   gi_wp2
   have hc6 := cell_kept (blk_cell h6 0) (grownBy_putObj' _ D (.deferred none)) (fun r e => by cases e; exact ⟨_, hK, rfl⟩)
   have hc7 := cell_kept (blk_cell h7 0) (grownBy_putObj' _ D (.deferred none)) (fun r e => by cases e; exact ⟨_, hK, rfl⟩)
   refine ⟨by simp, .inl ⟨_, _, rfl, run_takeDeferred hK, ?_⟩⟩
   refine ⟨.tuple #[.string ((rd_T33 ((rd_T33 l0_3 (x0.1 : Int)).f3) 1).f1), .int .i64 0], ?_, rfl, hB.trans (belowK_b (w := w) (Nat.le_refl _) _ D _ _ (by have := G.out.2.2.2.2.1.size; omega) hK rfl rfl)⟩
   simp [results, Tryd.f21, go_sem, hc6, hc7]
 ·rw [if_neg c] at h
  replace c := Bool.eq_false_iff.mpr c
  subst c
  simp only [Option.some.injEq, Prod.mk.injEq] at h
  obtain ⟨rfl, rfl⟩ := h
  gi_wp2_with (refine ⟨trivial, ?_⟩; gi_at_call 19; refine (callsIn_wide.2 (note_IsNotes.calls k a0_0 a0_1 a0_2 _ _ l0_3 false _ ?side1 ?side2 A1.out)).mono ?_; (case side1 => exact cU HR0.out); (case side2 => exact HC0.out); rintro e w6 ⟨rfl, hb⟩; have F6 := Aside0.mk (five_in w _ _ _ _ _ w6 hb); obtain ⟨v6, f6⟩ := cz1f F6.out.2.2.2.1; obtain ⟨v7, f7⟩ := cz1f F6.out.2.2.2.2.1; clear hb)
  have S := set2 (w := w) F6.out.2.2.2.1 F6.out.2.2.2.2.1 (by omega) (.string ⟨#[]⟩) (.int .i64 95) F6.out.2.2.2.2.2.1 (by omega) (by omega)
  have hc6 := blk_cell S.1 0
  have hc7 := blk_cell S.2.1 0
  refine ⟨.tuple #[.string ⟨#[]⟩, .int .i64 95], ?_, rfl, S.2.2.1⟩
  simp [results, Tryd.f21, go_sem, hc6, hc7]
end
def incunableref25_isLetter.f (a0 : Int) : Option (Bool) := if a0 ≥ 97 then (some (decide (a0 ≤ 122))) else (some false)
set_option maxHeartbeats 8000000 in
set_option maxRecDepth 100000 in
theorem incunableref25_isLetter.calls (a0 : Int) (r : Bool) (w : World) (h : incunableref25_isLetter.f a0 = some r) :
  Calls Tryd.prog 97 #[.int .u8 a0] w fun e w' => e = .returned (.bool r) ∧ Drawn0 w w' := by
 have H : (if a0 ≥ 97 then (some (decide (a0 ≤ 122))) else (some false)) = some r := h
 clear h
 rcases iL H with H1 | H1 <;> clear H <;> obtain ⟨H, c2b0⟩ := H1
 ·obtain rfl := Option.some.inj H
  go_enter Tryd.func97, Tryd.ntmps97
  go_wp2
  go_ret
  exact ⟨by first | rfl | (simp; done) | (simp [*]; done), by repeat (first | exact Drawn0.refl _ | apply Drawn0.step)⟩
 ·obtain rfl := Option.some.inj H
  go_enter Tryd.func97, Tryd.ntmps97
  go_wp2
  go_ret
  exact ⟨by first | rfl | (simp; done) | (simp [*]; done), by repeat (first | exact Drawn0.refl _ | apply Drawn0.step)⟩
def incunableref25_isWord.f (a0 : Int) : Option (Bool) := (incunableref25_isLetter.f a0).bind fun t185 => (if t185 = true then (some true) else (if a0 ≥ 48 then (if a0 ≤ 57 then (some true) else (some (a0 == 45))) else (some (a0 == 45))))
set_option maxHeartbeats 8000000 in
set_option maxRecDepth 100000 in
theorem incunableref25_isWord.calls (a0 : Int) (r : Bool) (w : World) (h : incunableref25_isWord.f a0 = some r) :
  Calls Tryd.prog 98 #[.int .u8 a0] w fun e w' => e = .returned (.bool r) ∧ Drawn0 w w' := by
 have H := h
 unfold incunableref25_isWord.f at H
 clear h
 obtain ⟨t185, A2, H⟩ := oB H
 try dsimp only at H
 by_cases c3 : t185 = true
 ·subst c3
  rw [if_pos rfl] at H
  obtain rfl := Option.some.inj H
  go_enter Tryd.func98, Tryd.ntmps98
  go_wp2_with (first | (refine gF 97 4 Tryd.func97 #[.int .u8 a0] rfl rfl ?_; (with_reducible refine (incunableref25_isLetter.calls a0 true _ A2.out).mono ?_); rintro e w' ⟨rfl, ⟨nd, rfl⟩⟩; refine ⟨_, rfl, ?_⟩))
  go_ret
  exact ⟨by first | rfl | (simp; done) | (simp [*]; done), by repeat (first | exact Drawn0.refl _ | apply Drawn0.step)⟩
 ·replace c3 := Bool.eq_false_iff.mpr c3
  subst c3
  rw [if_neg Bool.false_ne_true] at H
  rcases iL H with H1 | H1 <;> clear H <;> obtain ⟨H, c4b0⟩ := H1
  ·rcases iL H with H1 | H1 <;> clear H <;> obtain ⟨H, c5b0⟩ := H1
   ·obtain rfl := Option.some.inj H
    go_enter Tryd.func98, Tryd.ntmps98
    go_wp2_with (first | (refine gF 97 4 Tryd.func97 #[.int .u8 a0] rfl rfl ?_; (with_reducible refine (incunableref25_isLetter.calls a0 false _ A2.out).mono ?_); rintro e w' ⟨rfl, ⟨nd, rfl⟩⟩; refine ⟨_, rfl, ?_⟩))
    go_ret
    exact ⟨by first | rfl | (simp; done) | (simp [*]; done), by repeat (first | exact Drawn0.refl _ | apply Drawn0.step)⟩
   ·obtain rfl := Option.some.inj H
    go_enter Tryd.func98, Tryd.ntmps98
    go_wp2_with (first | (refine gF 97 4 Tryd.func97 #[.int .u8 a0] rfl rfl ?_; (with_reducible refine (incunableref25_isLetter.calls a0 false _ A2.out).mono ?_); rintro e w' ⟨rfl, ⟨nd, rfl⟩⟩; refine ⟨_, rfl, ?_⟩))
    go_ret
    exact ⟨by first | rfl | (simp; done) | (simp [*]; done), by repeat (first | exact Drawn0.refl _ | apply Drawn0.step)⟩
  ·obtain rfl := Option.some.inj H
   go_enter Tryd.func98, Tryd.ntmps98
   go_wp2_with (first | (refine gF 97 4 Tryd.func97 #[.int .u8 a0] rfl rfl ?_; (with_reducible refine (incunableref25_isLetter.calls a0 false _ A2.out).mono ?_); rintro e w' ⟨rfl, ⟨nd, rfl⟩⟩; refine ⟨_, rfl, ?_⟩))
   go_ret
   exact ⟨by first | rfl | (simp; done) | (simp [*]; done), by repeat (first | exact Drawn0.refl _ | apply Drawn0.step)⟩
end Go.Proofs.YtacdchogjpeffaaDoor.PNoteHits
