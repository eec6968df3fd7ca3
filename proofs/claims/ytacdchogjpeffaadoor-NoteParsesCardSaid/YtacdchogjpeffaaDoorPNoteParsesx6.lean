-- printed (wip/tools/myprint.py)
import Derived.Test.YtacdchogjpeffaaDoorPNoteParsesx0
namespace Go.Proofs.YtacdchogjpeffaaDoor.PNoteParses
open Go.RowKit Go.Proofs.YtacdchogjpeffaaDoorW.PrintWords Go.Proofs.YtacdchogjpeffaaDoorW.PrintLast Go.Proofs.YtacdchogjpeffaaDoorW.PrintMore
attribute [local go_sem] max2_int min2_int max_two min_two max_three min_three max_four min_four
set_option linter.unusedVariables false
set_option linter.unusedSimpArgs false
mutual
def incunableref25_SameExpr.j0 : Nat → Bool → Int → ByteArray → Int → List (S33) → Int → ByteArray → Int → List (S33) → Option (Bool)
 | 0, _, _, _, _, _, _, _, _, _ => none
 | k + 1, x33, x116000, x116001, x116002, x116003, x117000, x117001, x117002, x117003 => if x33 = true then (some false) else (incunableref25_SameExpr.l0 k 0 x116000 x116001 x116002 x116003 x117000 x117001 x117002 x117003)
def incunableref25_SameExpr.l0 : Nat → Int → Int → ByteArray → Int → List (S33) → Int → ByteArray → Int → List (S33) → Option (Bool)
 | 0, _, _, _, _, _, _, _, _, _ => none
 | k + 1, x5, x116000, x116001, x116002, x116003, x117000, x117001, x117002, x117003 => if x5 < (x116003.length : Int) then (if 0 ≤ x5 then (if x5 < (x117003.length : Int) then ((incunableref25_SameExpr.f k ((rd_T33 x116003 x5).f0) ((rd_T33 x116003 x5).f1) ((rd_T33 x116003 x5).f2) ((rd_T33 x116003 x5).f3) ((rd_T33 x117003 x5).f0) ((rd_T33 x117003 x5).f1) ((rd_T33 x117003 x5).f2) ((rd_T33 x117003 x5).f3)).bind fun t119 => (if t119 = true then (incunableref25_SameExpr.l0 k (wrap64 (x5 + 1)) x116000 x116001 x116002 x116003 x117000 x117001 x117002 x117003) else (some false))) else (none)) else (none)) else (some true)
def incunableref25_SameExpr.f : Nat → Int → ByteArray → Int → List (S33) → Int → ByteArray → Int → List (S33) → Option (Bool)
 | 0, _, _, _, _, _, _, _, _ => none
 | k + 1, a0_0, a0_1, a0_2, l0_3, a1_0, a1_1, a1_2, l1_3 => if a0_0 = a1_0 then (if a0_1.toList = a1_1.toList then (if a0_2 = a1_2 then (incunableref25_SameExpr.j0 k ((l0_3.length : Int) != (l1_3.length : Int)) a0_0 a0_1 a0_2 l0_3 a1_0 a1_1 a1_2 l1_3) else (incunableref25_SameExpr.j0 k true a0_0 a0_1 a0_2 l0_3 a1_0 a1_1 a1_2 l1_3)) else (incunableref25_SameExpr.j0 k true a0_0 a0_1 a0_2 l0_3 a1_0 a1_1 a1_2 l1_3)) else (incunableref25_SameExpr.j0 k true a0_0 a0_1 a0_2 l0_3 a1_0 a1_1 a1_2 l1_3)
end
theorem incunableref25_SameExpr.mono_l : ∀ k, (∀ y0 y1 y2 y3 y4 y5 y6 y7, LeO (incunableref25_SameExpr.f k y0 y1 y2 y3 y4 y5 y6 y7) (incunableref25_SameExpr.f (k + 1) y0 y1 y2 y3 y4 y5 y6 y7)) ∧ (∀ y0 y1 y2 y3 y4 y5 y6 y7 y8, LeO (incunableref25_SameExpr.j0 k y0 y1 y2 y3 y4 y5 y6 y7 y8) (incunableref25_SameExpr.j0 (k + 1) y0 y1 y2 y3 y4 y5 y6 y7 y8)) ∧ (∀ y0 y1 y2 y3 y4 y5 y6 y7 y8, LeO (incunableref25_SameExpr.l0 k y0 y1 y2 y3 y4 y5 y6 y7 y8) (incunableref25_SameExpr.l0 (k + 1) y0 y1 y2 y3 y4 y5 y6 y7 y8))
 | 0 => ⟨fun _ _ _ _ _ _ _ _ r h => by simp [incunableref25_SameExpr.f] at h, fun _ _ _ _ _ _ _ _ _ r h => by simp [incunableref25_SameExpr.j0] at h, fun _ _ _ _ _ _ _ _ _ r h => by simp [incunableref25_SameExpr.l0] at h⟩
 | k + 1 => by
  obtain ⟨ih0, ih1, ih2⟩ := incunableref25_SameExpr.mono_l k
  refine ⟨?_, ?_, ?_⟩
  ·intro y0 y1 y2 y3 y4 y5 y6 y7
   unfold incunableref25_SameExpr.f
   repeat' first
   | (with_reducible exact ih0 _ _ _ _ _ _ _ _)
   | (with_reducible exact ih1 _ _ _ _ _ _ _ _ _)
   | (with_reducible exact ih2 _ _ _ _ _ _ _ _ _)
   | (with_reducible first | exact LeO.refl _ | exact LeO.none _ | refine LeO.ite ?_ ?_ | refine LeO.bind ?_ (fun _ => ?_))
  ·intro y0 y1 y2 y3 y4 y5 y6 y7 y8
   unfold incunableref25_SameExpr.j0
   repeat' first
   | (with_reducible exact ih0 _ _ _ _ _ _ _ _)
   | (with_reducible exact ih1 _ _ _ _ _ _ _ _ _)
   | (with_reducible exact ih2 _ _ _ _ _ _ _ _ _)
   | (with_reducible first | exact LeO.refl _ | exact LeO.none _ | refine LeO.ite ?_ ?_ | refine LeO.bind ?_ (fun _ => ?_))
  ·intro y0 y1 y2 y3 y4 y5 y6 y7 y8
   unfold incunableref25_SameExpr.l0
   repeat' first
   | (with_reducible exact ih0 _ _ _ _ _ _ _ _)
   | (with_reducible exact ih1 _ _ _ _ _ _ _ _ _)
   | (with_reducible exact ih2 _ _ _ _ _ _ _ _ _)
   | (with_reducible first | exact LeO.refl _ | exact LeO.none _ | refine LeO.ite ?_ ?_ | refine LeO.bind ?_ (fun _ => ?_))
theorem incunableref25_SameExpr.mono : ∀ a0 a1 a2 a3 a4 a5 a6 a7 k, LeO (incunableref25_SameExpr.f k a0 a1 a2 a3 a4 a5 a6 a7) (incunableref25_SameExpr.f (k + 1) a0 a1 a2 a3 a4 a5 a6 a7) := by
 intro a0 a1 a2 a3 a4 a5 a6 a7 k
 obtain ⟨ih0, ih1, ih2⟩ := incunableref25_SameExpr.mono_l k
 exact ih0 a0 a1 a2 a3 a4 a5 a6 a7
def incunableref25_SameExpr.T6 : Bool × List (List Nat × List Nat) := (true, [([], []), ([0], [0]), ([], []), ([1, 2], [1, 2]), ([3], [3]), ([], []), ([5], [5]), ([], []), ([6, 7], [6, 7]), ([8], [8]), ([4, 9], [4, 9]), ([10], [10])])
def incunableref25_SameExpr.B6 : List Nat := [0, 1, 0, 7, 15, 0, 32, 0, 224, 480, 1023, 2047]
theorem incunableref25_SameExpr.tab6 : rtab .any (opsOf Tryd.f36 6) = incunableref25_SameExpr.T6 := by kernel_rfl
theorem incunableref25_SameExpr.bits6 : waitsOk incunableref25_SameExpr.T6.2 incunableref25_SameExpr.B6 = true := by kernel_rfl
set_option maxHeartbeats 8000000 in
set_option maxRecDepth 100000 in
theorem incunableref25_SameExpr.calls (k : Nat) : ∀ (a0_0 : Int) (a0_1 : ByteArray) (a0_2 : Int) (A0_3 : Option Addr) (c0_3 : Nat) (l0_3 : List (S33)) (a1_0 : Int) (a1_1 : ByteArray) (a1_2 : Int) (A1_3 : Option Addr) (c1_3 : Nat) (l1_3 : List (S33)) (r : Bool) (w : World) (hr0_3 : Kd.C k33 w A0_3 l0_3.length l0_3) (hc0_3 : l0_3.length ≤ c0_3) (hr1_3 : Kd.C k33 w A1_3 l1_3.length l1_3) (hc1_3 : l1_3.length ≤ c1_3) (h : incunableref25_SameExpr.f k a0_0 a0_1 a0_2 l0_3 a1_0 a1_1 a1_2 l1_3 = some r),
  Calls Tryd.prog 36 #[.agg #[.int .i64 a0_0, .string a0_1, .int .i64 a0_2, .slice A0_3 l0_3.length c0_3], .agg #[.int .i64 a1_0, .string a1_1, .int .i64 a1_2, .slice A1_3 l1_3.length c1_3]] w fun e w' => e = .returned (.bool r) ∧ Below w.heap.size w w' := by
 induction k using Nat.strongRecOn with
 | _ k ih =>
 intro a0_0 a0_1 a0_2 A0_3 c0_3 l0_3 a1_0 a1_1 a1_2 A1_3 c1_3 l1_3 r w hr0_3 hc0_3 hr1_3 hc1_3 h
 cases k with
 | zero => exact absurd h (by simp [incunableref25_SameExpr.f])
 | succ k =>
 simp only [incunableref25_SameExpr.f] at h
 have hu33 := Tryd.underlying33
 have HR0_3 := Aside0.mk hr0_3
 have HC0_3 := Aside0.mk hc0_3
 clear hr0_3 hc0_3
 have HR1_3 := Aside0.mk hr1_3
 have HC1_3 := Aside0.mk hc1_3
 clear hr1_3 hc1_3
 have HB := Aside0.mk (Below.refl w.heap.size w)
 have H := h
 unfold incunableref25_SameExpr.f at H
 clear h
 have HC3 := Aside0.mk H
 clear H
 go_enter Tryd.func36, Tryd.ntmps36
 go_upto_region 1 with (first | ((with_reducible refine gd 2 rfl ?_); (try (refine gate_guard (by rfl) ?_; dsimp only)); refine bx 2 #[.int .i64 a0_0, .string a0_1, .int .i64 a0_2, .slice A0_3 l0_3.length c0_3] 33 rfl rfl ?_; intro gb115 hg w4 hbox hb; have n_ := aC (bs hb) (aC hbox (aC (gz hg) (aE (gz hg)))); clear HB; obtain ⟨HB, BK115, GW115, GE115⟩ := n_; clear hb hbox hg) | ((with_reducible refine gd 3 rfl ?_); (try (refine gate_guard (by rfl) ?_; dsimp only)); refine bx 3 #[.int .i64 a1_0, .string a1_1, .int .i64 a1_2, .slice A1_3 l1_3.length c1_3] 33 rfl rfl ?_; intro gb116 hg w5 hbox hb; have n_ := aC (blk_below (bU BK115.out) hb) (aC (bs hb) (aC hbox (aC (gz hg) (aC (gz hg) (aC (gn hg (bU BK115.out)) (aE (gm hg (bU BK115.out)))))))); clear BK115 HB; obtain ⟨BK115, HB, BK116, GW116, GE116, NB115_116, NB116_115⟩ := n_; clear hb hbox hg))
 (try simp only [Act.put, List.setIfInBounds_toArray, List.set_cons_zero, List.set_cons_succ])
 go_cut [33] (fun v33 wc => ∃ (kq : Nat) (x33_2 : Bool), v33 = .bool x33_2 ∧ Aside0 (incunableref25_SameExpr.j0 kq x33_2 a0_0 a0_1 a0_2 l0_3 a1_0 a1_1 a1_2 l1_3 = some r) ∧ Aside0 (kq ≤ k) ∧ Aside0 (wc.heap[gb115]? = some (.cells #[.int .i64 a0_0, .string a0_1, .int .i64 a0_2, (.slice A0_3 l0_3.length c0_3)] 33 (0, 0))) ∧ Aside0 (wc.heap[gb116]? = some (.cells #[.int .i64 a1_0, .string a1_1, .int .i64 a1_2, (.slice A1_3 l1_3.length c1_3)] 33 (0, 0))) ∧ Aside0 (Below w.heap.size w wc))
 case first =>
  have H := HC3.out
  clear HC3
  rcases iE H with H1 | H1 <;> clear H <;> obtain ⟨H, c6b0, c6b1, c6⟩ := H1
  ·(first | rw [c6b0] | (simp only [i64_w, i32_w]; rw [c6b0]) | skip)
   rcases iE H with H1 | H1 <;> clear H <;> obtain ⟨H, c7b0, c7b1, c7⟩ := H1
   ·rcases iE H with H1 | H1 <;> clear H <;> obtain ⟨H, c8b0, c8b1, c8⟩ := H1
    ·have H' := Aside0.mk H
     clear H
     have hnb9 := NB115_116.out
     have hnc9 := NB116_115.out
     obtain ⟨hcz10_0, hcz10_1, hcz10_2, hcz10_3, hfz10_0, hfz10_1, hfz10_2, hfz10_3⟩ := cz4f BK115.out
     obtain ⟨hcz11_0, hcz11_1, hcz11_2, hcz11_3, hfz11_0, hfz11_1, hfz11_2, hfz11_3⟩ := cz4f BK116.out
     go_wp2
     go_meet
     case rel => exact ⟨_, (((l0_3.length : Int) != (l1_3.length : Int))), rq, H', ⟨by first | omega | exact Nat.le_refl _⟩, ⟨bU BK115.out⟩, ⟨bU BK116.out⟩, ⟨bl⟩⟩
    ·have H' := Aside0.mk H
     clear H
     have hnb12 := NB115_116.out
     have hnc12 := NB116_115.out
     obtain ⟨hcz13_0, hcz13_1, hcz13_2, hcz13_3, hfz13_0, hfz13_1, hfz13_2, hfz13_3⟩ := cz4f BK115.out
     obtain ⟨hcz14_0, hcz14_1, hcz14_2, hcz14_3, hfz14_0, hfz14_1, hfz14_2, hfz14_3⟩ := cz4f BK116.out
     go_wp2
     go_meet
     case rel => exact ⟨_, (true), rq, H', ⟨by first | omega | exact Nat.le_refl _⟩, ⟨bU BK115.out⟩, ⟨bU BK116.out⟩, ⟨bl⟩⟩
   ·have H' := Aside0.mk H
    clear H
    have hnb15 := NB115_116.out
    have hnc15 := NB116_115.out
    obtain ⟨hcz16_0, hcz16_1, hcz16_2, hcz16_3, hfz16_0, hfz16_1, hfz16_2, hfz16_3⟩ := cz4f BK115.out
    obtain ⟨hcz17_0, hcz17_1, hcz17_2, hcz17_3, hfz17_0, hfz17_1, hfz17_2, hfz17_3⟩ := cz4f BK116.out
    go_wp2
    go_meet
    case rel => exact ⟨_, (true), rq, H', ⟨by first | omega | exact Nat.le_refl _⟩, ⟨bU BK115.out⟩, ⟨bU BK116.out⟩, ⟨bl⟩⟩
  ·(first | rw [c6b0] | (simp only [i64_w, i32_w]; rw [c6b0]) | skip)
   have H' := Aside0.mk H
   clear H
   have hnb18 := NB115_116.out
   have hnc18 := NB116_115.out
   obtain ⟨hcz19_0, hcz19_1, hcz19_2, hcz19_3, hfz19_0, hfz19_1, hfz19_2, hfz19_3⟩ := cz4f BK115.out
   obtain ⟨hcz20_0, hcz20_1, hcz20_2, hcz20_3, hfz20_0, hfz20_1, hfz20_2, hfz20_3⟩ := cz4f BK116.out
   go_wp2
   go_meet
   case rel => exact ⟨_, (true), rq, H', ⟨by first | omega | exact Nat.le_refl _⟩, ⟨bU BK115.out⟩, ⟨bU BK116.out⟩, ⟨bl⟩⟩
 case rest =>
  clear HC3
  obtain ⟨kq, x33_2, rfl, HA, HJ2, BK115, BK116, HB⟩ := hcut
  cases kq with
  | zero => exact absurd HA.out (by simp [incunableref25_SameExpr.j0])
  | succ kj2 =>
   have H := HA.out
   clear HA
   simp only [incunableref25_SameExpr.j0] at H
   by_cases c21 : x33_2 = true
   ·subst c21
    rw [if_pos rfl] at H
    obtain rfl := Option.some.inj H
    go_wp2
    go_ret
    exact ⟨re, bl⟩
   ·replace c21 := Bool.eq_false_iff.mpr c21
    subst c21
    rw [if_neg Bool.false_ne_true] at H
    have H' := Aside0.mk H
    clear H
    go_wp2
    go_loopg [5] kj2 (fun kq v5 w' => ∃ (x5_2 : Int), v5 = .int .i64 x5_2 ∧ Aside0 (incunableref25_SameExpr.l0 kq x5_2 a0_0 a0_1 a0_2 l0_3 a1_0 a1_1 a1_2 l1_3 = some r) ∧ Aside0 (kq ≤ kj2) ∧ Aside0 (w'.heap[gb115]? = some (.cells #[.int .i64 a0_0, .string a0_1, .int .i64 a0_2, (.slice A0_3 l0_3.length c0_3)] 33 (0, 0))) ∧ Aside0 (w'.heap[gb116]? = some (.cells #[.int .i64 a1_0, .string a1_1, .int .i64 a1_2, (.slice A1_3 l1_3.length c1_3)] 33 (0, 0))) ∧ Aside0 (Below w.heap.size w w'))
    case atStart => exact ⟨(0), rq, H', ⟨Nat.le_refl _⟩, ⟨bU BK115.out⟩, ⟨bU BK116.out⟩, ⟨bl⟩⟩
    case round =>
     clear H'
     obtain ⟨x5_2, rfl, HA, HK2, BK115, BK116, HB⟩ := hrel
     cases gk with
     | zero => exact absurd HA.out (by simp [incunableref25_SameExpr.l0])
     | succ k2 =>
      have H := HA.out
      clear HA
      simp only [incunableref25_SameExpr.l0] at H
      rcases iL H with H1 | H1 <;> clear H <;> obtain ⟨H, c22b0⟩ := H1
      ·by_cases c23 : 0 ≤ x5_2
       ·rw [if_pos c23] at H
        have c23b0 := decide_eq_true c23
        clear c23
        by_cases c24 : x5_2 < (l1_3.length : Int)
        ·rw [if_pos c24] at H
         have c24b0 := decide_eq_true c24
         clear c24
         obtain ⟨t119, A25, H⟩ := oB H
         try dsimp only at H
         by_cases c26 : t119 = true
         ·subst c26
          rw [if_pos rfl] at H
          have H' := Aside0.mk H
          clear H
          have hnb27 := NB115_116.out
          have hnc27 := NB116_115.out
          obtain ⟨hcz28_0, hcz28_1, hcz28_2, hcz28_3, hfz28_0, hfz28_1, hfz28_2, hfz28_3⟩ := cz4f BK115.out
          try go_wp2
          have n_ := aC (blk_drew BK115.out) (aC (blk_drew BK116.out) (aE (below_drew1 HB.out)))
          clear BK115 BK116 HB
          obtain ⟨BK115, BK116, HB⟩ := n_
          have p117 : 0 ≤ (x5_2 : Int) := dt
          have q117 : x5_2 < (l0_3.length : Int) := dt
          obtain ⟨ad117, A117_3, c117_3, e117, hx117_0, hx117_1, hx117_2, hx117_3, hl117_3, hi117_3⟩ := at_T33 HR0_3.out x5_2 p117 q117
          have hw117_3 := hx117_3
          have hw117_2 := hx117_2
          have hw117_1 := hx117_1
          have hw117_0 := hx117_0
          cases e117
          replace hx117_0 := hcB HB.out hx117_0
          replace hx117_1 := hcB HB.out hx117_1
          replace hx117_2 := hcB HB.out hx117_2
          replace hx117_3 := hcB HB.out hx117_3
          have HR117_3 := Aside0.mk hi117_3
          have HC117_3 := Aside0.mk hl117_3
          clear hi117_3 hl117_3
          replace p117 := eq_true p117
          replace q117 := eq_true q117
          have p118 : 0 ≤ (x5_2 : Int) := dt
          have q118 : x5_2 < (l1_3.length : Int) := dt
          obtain ⟨ad118, A118_3, c118_3, e118, hx118_0, hx118_1, hx118_2, hx118_3, hl118_3, hi118_3⟩ := at_T33 HR1_3.out x5_2 p118 q118
          have hw118_3 := hx118_3
          have hw118_2 := hx118_2
          have hw118_1 := hx118_1
          have hw118_0 := hx118_0
          cases e118
          replace hx118_0 := hcB HB.out hx118_0
          replace hx118_1 := hcB HB.out hx118_1
          replace hx118_2 := hcB HB.out hx118_2
          replace hx118_3 := hcB HB.out hx118_3
          have HR118_3 := Aside0.mk hi118_3
          have HC118_3 := Aside0.mk hl118_3
          clear hi118_3 hl118_3
          replace p118 := eq_true p118
          replace q118 := eq_true q118
          refine st 12 (fun w' => w'.cell? ⟨gb115, 0, none⟩ = some (.int .i64 a0_0) ∧ w'.cell? ⟨gb115, 1, none⟩ = some (.string a0_1) ∧ w'.cell? ⟨gb115, 2, none⟩ = some (.int .i64 a0_2) ∧ w'.cell? ⟨gb115, 3, none⟩ = some (.slice (some ad117) l0_3.length c0_3) ∧ w'.cell? ⟨gb116, 0, none⟩ = some (.int .i64 a1_0) ∧ w'.cell? ⟨gb116, 1, none⟩ = some (.string a1_1) ∧ w'.cell? ⟨gb116, 2, none⟩ = some (.int .i64 a1_2) ∧ w'.cell? ⟨gb116, 3, none⟩ = some (.slice (some ad118) l1_3.length c1_3) ∧ w'.cell? (ad117.add ((x5_2).toNat * 4)) = some (.int .i64 ((rd_T33 l0_3 x5_2).f0)) ∧ w'.cell? ⟨(ad117.add ((x5_2).toNat * 4)).block, (ad117.add ((x5_2).toNat * 4)).off + 1, none⟩ = some (.string ((rd_T33 l0_3 x5_2).f1)) ∧ w'.cell? ⟨(ad117.add ((x5_2).toNat * 4)).block, (ad117.add ((x5_2).toNat * 4)).off + 2, none⟩ = some (.int .i64 ((rd_T33 l0_3 x5_2).f2)) ∧ w'.cell? ⟨(ad117.add ((x5_2).toNat * 4)).block, (ad117.add ((x5_2).toNat * 4)).off + 3, none⟩ = some (.slice A117_3 ((rd_T33 l0_3 x5_2).f3).length c117_3) ∧ w'.cell? (ad118.add ((x5_2).toNat * 4)) = some (.int .i64 ((rd_T33 l1_3 x5_2).f0)) ∧ w'.cell? ⟨(ad118.add ((x5_2).toNat * 4)).block, (ad118.add ((x5_2).toNat * 4)).off + 1, none⟩ = some (.string ((rd_T33 l1_3 x5_2).f1)) ∧ w'.cell? ⟨(ad118.add ((x5_2).toNat * 4)).block, (ad118.add ((x5_2).toNat * 4)).off + 2, none⟩ = some (.int .i64 ((rd_T33 l1_3 x5_2).f2)) ∧ w'.cell? ⟨(ad118.add ((x5_2).toNat * 4)).block, (ad118.add ((x5_2).toNat * 4)).off + 3, none⟩ = some (.slice A118_3 ((rd_T33 l1_3 x5_2).f3).length c118_3)) [] (bv 12 0) incunableref25_SameExpr.tab6 incunableref25_SameExpr.bits6 ⟨kc0 BK115.out, kc1 BK115.out, kc2 BK115.out, kc3 BK115.out, kc0 BK116.out, kc1 BK116.out, kc2 BK116.out, kc3 BK116.out, (hcB HB.out hw117_0), (hcB HB.out hw117_1), (hcB HB.out hw117_2), (hcB HB.out hw117_3), (hcB HB.out hw118_0), (hcB HB.out hw118_1), (hcB HB.out hw118_2), (hcB HB.out hw118_3)⟩ (fun hHeld HT_ HW_ => ?_)
          generalize wr.drew = w29 at BK115 BK116 HB HR117_3 HR118_3 hx117_0 hx117_1 hx117_2 hx117_3 hx118_0 hx118_1 hx118_2 hx118_3 hHeld ⊢
          refine pu 0 41 (bv 12 1) HT_ rfl rfl ?_
          refine pu 2 43 (bv 12 5) HT_ rfl rfl ?_
          refine pu 5 46 (bv 12 37) HT_ rfl rfl ?_
          refine pu 7 48 (bv 12 165) HT_ rfl rfl ?_
          refine tk 1 42 (bv 12 167) HT_ HW_ hHeld rfl rfl (by rintro w' ⟨s0, s1, s2, s3, s4, s5, s6, s7, s8, s9, s10, s11, s12, s13, s14, s15⟩; exact yl) ?_
          refine pu 3 44 (bv 12 175) HT_ rfl rfl ?_
          refine tk 4 45 (bv 12 191) HT_ HW_ hHeld rfl rfl (by rintro w' ⟨s0, s1, s2, s3, s4, s5, s6, s7, s8, s9, s10, s11, s12, s13, s14, s15⟩; exact yl) ?_
          refine tk 6 47 (bv 12 255) HT_ HW_ hHeld rfl rfl (by rintro w' ⟨s0, s1, s2, s3, s4, s5, s6, s7, s8, s9, s10, s11, s12, s13, s14, s15⟩; exact yl) ?_
          refine pu 8 49 (bv 12 511) HT_ rfl rfl ?_
          refine tk 9 50 (bv 12 1023) HT_ HW_ hHeld rfl rfl (by rintro w' ⟨s0, s1, s2, s3, s4, s5, s6, s7, s8, s9, s10, s11, s12, s13, s14, s15⟩; exact yl) ?_
          refine one_ (i := 10) (N := some 51) (bv 12 2047) rfl rfl (one_of HT_.out (by kernel_rfl)) (by decide) (fun K hK => ?_)
          refine gK Tryd.func36 rfl #[.agg #[.int .i64 ((rd_T33 l0_3 x5_2).f0), .string ((rd_T33 l0_3 x5_2).f1), .int .i64 ((rd_T33 l0_3 x5_2).f2), .slice A117_3 ((rd_T33 l0_3 x5_2).f3).length c117_3], .agg #[.int .i64 ((rd_T33 l1_3 x5_2).f0), .string ((rd_T33 l1_3 x5_2).f1), .int .i64 ((rd_T33 l1_3 x5_2).f2), .slice A118_3 ((rd_T33 l1_3 x5_2).f3).length c118_3]] rfl rfl ?_
          with_reducible refine (ih k2 (by have := HJ2.out; have := HK2.out; omega) ((rd_T33 l0_3 x5_2).f0) ((rd_T33 l0_3 x5_2).f1) ((rd_T33 l0_3 x5_2).f2) _ _ ((rd_T33 l0_3 x5_2).f3) ((rd_T33 l1_3 x5_2).f0) ((rd_T33 l1_3 x5_2).f1) ((rd_T33 l1_3 x5_2).f2) _ _ ((rd_T33 l1_3 x5_2).f3) true _ ?side1 ?side2 ?side3 ?side4 A25.out).mono ?_
          (case side1 => exact cU (Kd.C_below HR117_3.out HB.out))
          (case side2 => exact HC117_3.out)
          (case side3 => exact cU (Kd.C_below HR118_3.out HB.out))
          (case side4 => exact HC118_3.out)
          rintro e w30 ⟨rfl, hb⟩
          refine ⟨_, rfl, ?_⟩
          have n_ := aC (blk_below (bU BK115.out) hb) (aC (blk_below (bU BK116.out) hb) (aE (bs hb)))
          clear BK115 BK116 HB
          obtain ⟨BK115, BK116, HB⟩ := n_
          (try clear hb)
          (try clear hb2)
          (try clear hk)
          (try clear hi)
          refine hK.out _ _ ⟨kc0 BK115.out, kc1 BK115.out, kc2 BK115.out, kc3 BK115.out, kc0 BK116.out, kc1 BK116.out, kc2 BK116.out, kc3 BK116.out, (hcB HB.out hw117_0), (hcB HB.out hw117_1), (hcB HB.out hw117_2), (hcB HB.out hw117_3), (hcB HB.out hw118_0), (hcB HB.out hw118_1), (hcB HB.out hw118_2), (hcB HB.out hw118_3)⟩ (fun hHeld => ?_)
          clear hK K
          refine nm (some 51) ?_
          refine pu 11 52 (bv 12 4095) HT_ rfl rfl ?_
          refine done_ (done_of HT_.out (by kernel_rfl)) ?_
          try go_wp2
          go_roundg k2
          case measure => have := HJ2.out; have := HK2.out; omega
          case rel => exact ⟨(wrap64 (x5_2 + 1)), rq, H', ⟨by have := HJ2.out; have := HK2.out; omega⟩, ⟨bU BK115.out⟩, ⟨bU BK116.out⟩, ⟨bl⟩⟩
         ·replace c26 := Bool.eq_false_iff.mpr c26
          subst c26
          rw [if_neg Bool.false_ne_true] at H
          obtain rfl := Option.some.inj H
          have hnb31 := NB115_116.out
          have hnc31 := NB116_115.out
          obtain ⟨hcz32_0, hcz32_1, hcz32_2, hcz32_3, hfz32_0, hfz32_1, hfz32_2, hfz32_3⟩ := cz4f BK115.out
          try go_wp2
          have n_ := aC (blk_drew BK115.out) (aC (blk_drew BK116.out) (aE (below_drew1 HB.out)))
          clear BK115 BK116 HB
          obtain ⟨BK115, BK116, HB⟩ := n_
          have p117 : 0 ≤ (x5_2 : Int) := dt
          have q117 : x5_2 < (l0_3.length : Int) := dt
          obtain ⟨ad117, A117_3, c117_3, e117, hx117_0, hx117_1, hx117_2, hx117_3, hl117_3, hi117_3⟩ := at_T33 HR0_3.out x5_2 p117 q117
          have hw117_3 := hx117_3
          have hw117_2 := hx117_2
          have hw117_1 := hx117_1
          have hw117_0 := hx117_0
          cases e117
          replace hx117_0 := hcB HB.out hx117_0
          replace hx117_1 := hcB HB.out hx117_1
          replace hx117_2 := hcB HB.out hx117_2
          replace hx117_3 := hcB HB.out hx117_3
          have HR117_3 := Aside0.mk hi117_3
          have HC117_3 := Aside0.mk hl117_3
          clear hi117_3 hl117_3
          replace p117 := eq_true p117
          replace q117 := eq_true q117
          have p118 : 0 ≤ (x5_2 : Int) := dt
          have q118 : x5_2 < (l1_3.length : Int) := dt
          obtain ⟨ad118, A118_3, c118_3, e118, hx118_0, hx118_1, hx118_2, hx118_3, hl118_3, hi118_3⟩ := at_T33 HR1_3.out x5_2 p118 q118
          have hw118_3 := hx118_3
          have hw118_2 := hx118_2
          have hw118_1 := hx118_1
          have hw118_0 := hx118_0
          cases e118
          replace hx118_0 := hcB HB.out hx118_0
          replace hx118_1 := hcB HB.out hx118_1
          replace hx118_2 := hcB HB.out hx118_2
          replace hx118_3 := hcB HB.out hx118_3
          have HR118_3 := Aside0.mk hi118_3
          have HC118_3 := Aside0.mk hl118_3
          clear hi118_3 hl118_3
          replace p118 := eq_true p118
          replace q118 := eq_true q118
          refine st 12 (fun w' => w'.cell? ⟨gb115, 0, none⟩ = some (.int .i64 a0_0) ∧ w'.cell? ⟨gb115, 1, none⟩ = some (.string a0_1) ∧ w'.cell? ⟨gb115, 2, none⟩ = some (.int .i64 a0_2) ∧ w'.cell? ⟨gb115, 3, none⟩ = some (.slice (some ad117) l0_3.length c0_3) ∧ w'.cell? ⟨gb116, 0, none⟩ = some (.int .i64 a1_0) ∧ w'.cell? ⟨gb116, 1, none⟩ = some (.string a1_1) ∧ w'.cell? ⟨gb116, 2, none⟩ = some (.int .i64 a1_2) ∧ w'.cell? ⟨gb116, 3, none⟩ = some (.slice (some ad118) l1_3.length c1_3) ∧ w'.cell? (ad117.add ((x5_2).toNat * 4)) = some (.int .i64 ((rd_T33 l0_3 x5_2).f0)) ∧ w'.cell? ⟨(ad117.add ((x5_2).toNat * 4)).block, (ad117.add ((x5_2).toNat * 4)).off + 1, none⟩ = some (.string ((rd_T33 l0_3 x5_2).f1)) ∧ w'.cell? ⟨(ad117.add ((x5_2).toNat * 4)).block, (ad117.add ((x5_2).toNat * 4)).off + 2, none⟩ = some (.int .i64 ((rd_T33 l0_3 x5_2).f2)) ∧ w'.cell? ⟨(ad117.add ((x5_2).toNat * 4)).block, (ad117.add ((x5_2).toNat * 4)).off + 3, none⟩ = some (.slice A117_3 ((rd_T33 l0_3 x5_2).f3).length c117_3) ∧ w'.cell? (ad118.add ((x5_2).toNat * 4)) = some (.int .i64 ((rd_T33 l1_3 x5_2).f0)) ∧ w'.cell? ⟨(ad118.add ((x5_2).toNat * 4)).block, (ad118.add ((x5_2).toNat * 4)).off + 1, none⟩ = some (.string ((rd_T33 l1_3 x5_2).f1)) ∧ w'.cell? ⟨(ad118.add ((x5_2).toNat * 4)).block, (ad118.add ((x5_2).toNat * 4)).off + 2, none⟩ = some (.int .i64 ((rd_T33 l1_3 x5_2).f2)) ∧ w'.cell? ⟨(ad118.add ((x5_2).toNat * 4)).block, (ad118.add ((x5_2).toNat * 4)).off + 3, none⟩ = some (.slice A118_3 ((rd_T33 l1_3 x5_2).f3).length c118_3)) [] (bv 12 0) incunableref25_SameExpr.tab6 incunableref25_SameExpr.bits6 ⟨kc0 BK115.out, kc1 BK115.out, kc2 BK115.out, kc3 BK115.out, kc0 BK116.out, kc1 BK116.out, kc2 BK116.out, kc3 BK116.out, (hcB HB.out hw117_0), (hcB HB.out hw117_1), (hcB HB.out hw117_2), (hcB HB.out hw117_3), (hcB HB.out hw118_0), (hcB HB.out hw118_1), (hcB HB.out hw118_2), (hcB HB.out hw118_3)⟩ (fun hHeld HT_ HW_ => ?_)
          generalize wr.drew = w33 at BK115 BK116 HB HR117_3 HR118_3 hx117_0 hx117_1 hx117_2 hx117_3 hx118_0 hx118_1 hx118_2 hx118_3 hHeld ⊢
          refine pu 0 41 (bv 12 1) HT_ rfl rfl ?_
          refine pu 2 43 (bv 12 5) HT_ rfl rfl ?_
          refine pu 5 46 (bv 12 37) HT_ rfl rfl ?_
          refine pu 7 48 (bv 12 165) HT_ rfl rfl ?_
          refine tk 1 42 (bv 12 167) HT_ HW_ hHeld rfl rfl (by rintro w' ⟨s0, s1, s2, s3, s4, s5, s6, s7, s8, s9, s10, s11, s12, s13, s14, s15⟩; exact yl) ?_
          refine pu 3 44 (bv 12 175) HT_ rfl rfl ?_
          refine tk 4 45 (bv 12 191) HT_ HW_ hHeld rfl rfl (by rintro w' ⟨s0, s1, s2, s3, s4, s5, s6, s7, s8, s9, s10, s11, s12, s13, s14, s15⟩; exact yl) ?_
          refine tk 6 47 (bv 12 255) HT_ HW_ hHeld rfl rfl (by rintro w' ⟨s0, s1, s2, s3, s4, s5, s6, s7, s8, s9, s10, s11, s12, s13, s14, s15⟩; exact yl) ?_
          refine pu 8 49 (bv 12 511) HT_ rfl rfl ?_
          refine tk 9 50 (bv 12 1023) HT_ HW_ hHeld rfl rfl (by rintro w' ⟨s0, s1, s2, s3, s4, s5, s6, s7, s8, s9, s10, s11, s12, s13, s14, s15⟩; exact yl) ?_
          refine one_ (i := 10) (N := some 51) (bv 12 2047) rfl rfl (one_of HT_.out (by kernel_rfl)) (by decide) (fun K hK => ?_)
          refine gK Tryd.func36 rfl #[.agg #[.int .i64 ((rd_T33 l0_3 x5_2).f0), .string ((rd_T33 l0_3 x5_2).f1), .int .i64 ((rd_T33 l0_3 x5_2).f2), .slice A117_3 ((rd_T33 l0_3 x5_2).f3).length c117_3], .agg #[.int .i64 ((rd_T33 l1_3 x5_2).f0), .string ((rd_T33 l1_3 x5_2).f1), .int .i64 ((rd_T33 l1_3 x5_2).f2), .slice A118_3 ((rd_T33 l1_3 x5_2).f3).length c118_3]] rfl rfl ?_
          with_reducible refine (ih k2 (by have := HJ2.out; have := HK2.out; omega) ((rd_T33 l0_3 x5_2).f0) ((rd_T33 l0_3 x5_2).f1) ((rd_T33 l0_3 x5_2).f2) _ _ ((rd_T33 l0_3 x5_2).f3) ((rd_T33 l1_3 x5_2).f0) ((rd_T33 l1_3 x5_2).f1) ((rd_T33 l1_3 x5_2).f2) _ _ ((rd_T33 l1_3 x5_2).f3) false _ ?side1 ?side2 ?side3 ?side4 A25.out).mono ?_
          (case side1 => exact cU (Kd.C_below HR117_3.out HB.out))
          (case side2 => exact HC117_3.out)
          (case side3 => exact cU (Kd.C_below HR118_3.out HB.out))
          (case side4 => exact HC118_3.out)
          rintro e w34 ⟨rfl, hb⟩
          refine ⟨_, rfl, ?_⟩
          have n_ := aC (blk_below (bU BK115.out) hb) (aC (blk_below (bU BK116.out) hb) (aE (bs hb)))
          clear BK115 BK116 HB
          obtain ⟨BK115, BK116, HB⟩ := n_
          (try clear hb)
          (try clear hb2)
          (try clear hk)
          (try clear hi)
          refine hK.out _ _ ⟨kc0 BK115.out, kc1 BK115.out, kc2 BK115.out, kc3 BK115.out, kc0 BK116.out, kc1 BK116.out, kc2 BK116.out, kc3 BK116.out, (hcB HB.out hw117_0), (hcB HB.out hw117_1), (hcB HB.out hw117_2), (hcB HB.out hw117_3), (hcB HB.out hw118_0), (hcB HB.out hw118_1), (hcB HB.out hw118_2), (hcB HB.out hw118_3)⟩ (fun hHeld => ?_)
          clear hK K
          refine nm (some 51) ?_
          refine pu 11 52 (bv 12 4095) HT_ rfl rfl ?_
          refine done_ (done_of HT_.out (by kernel_rfl)) ?_
          try go_wp2
          go_ret
          exact ⟨re, bl⟩
        ·rw [if_neg c24] at H
         exact absurd H (by simp)
       ·rw [if_neg c23] at H
        exact absurd H (by simp)
      ·obtain rfl := Option.some.inj H
       have hnb35 := NB115_116.out
       have hnc35 := NB116_115.out
       obtain ⟨hcz36_0, hcz36_1, hcz36_2, hcz36_3, hfz36_0, hfz36_1, hfz36_2, hfz36_3⟩ := cz4f BK115.out
       go_wp2
       go_ret
       exact ⟨re, bl⟩
end Go.Proofs.YtacdchogjpeffaaDoor.PNoteParses
