-- printed (wip/tools/myprint.py)
import Derived.Test.YtnnbfkmmjclhaaaPScanSpecksx0
import Derived.Test.YtnnbfkmmjclhaaaPScanSpecksx9
namespace Go.Proofs.Ytnnbfkmmjclhaaa.PScanSpecks
open Go.RowKit Go.Proofs.YtnnbfkmmjclhaaaW.PrintWords Go.Proofs.YtnnbfkmmjclhaaaW.PrintLast Go.Proofs.YtnnbfkmmjclhaaaW.PrintMore
attribute [local go_sem] max2_int min2_int max_two min_two max_three min_three max_four min_four
set_option linter.unusedVariables false
set_option linter.unusedSimpArgs false
def incunableref15_Marks.l0 : Nat → List Int → Int → Int → Int → Int → List Int → Option (List Int × Int)
 | 0, _, _, _, _, _, _ => none
 | k + 1, x4, x5, x6, x314000, x314001, x314002 => if x6 < (x314002.length : Int) then (if 0 ≤ x6 then (if (rd x314002 x6) = 1 then (if x6 < (x4.length : Int) then (if (rd x4 x6) = 0 then ((incunableref15_spread.f k x314000 x314001 x314002 x4 x6 (wrap64 (x5 + 1)) 1 true).bind fun bt319 => (incunableref15_Marks.l0 k bt319.2 (wrap64 (x5 + 1)) (wrap64 (x6 + 1)) x314000 x314001 x314002)) else (incunableref15_Marks.l0 k x4 x5 (wrap64 (x6 + 1)) x314000 x314001 x314002)) else (none)) else (incunableref15_Marks.l0 k x4 x5 (wrap64 (x6 + 1)) x314000 x314001 x314002)) else (none)) else (some (x4, x5))
def incunableref15_Marks.f (k : Nat) (a0_0 : Int) (a0_1 : Int) (l0_2 : List Int) : Option (List Int × Int) := if 0 ≤ (l0_2.length : Int) then (if ((l0_2.length : Int) : Int).toNat ≤ 35184372088832 then (incunableref15_Marks.l0 k (List.replicate ((l0_2.length : Int) : Int).toNat 0) 0 0 a0_0 a0_1 l0_2) else (none)) else (none)
theorem incunableref15_Marks.mono_l : ∀ k, (∀ y0 y1 y2 y3 y4 y5, LeO (incunableref15_Marks.l0 k y0 y1 y2 y3 y4 y5) (incunableref15_Marks.l0 (k + 1) y0 y1 y2 y3 y4 y5))
 | 0 => fun _ _ _ _ _ _ r h => by simp [incunableref15_Marks.l0] at h
 | k + 1 => by
  have ih0 := incunableref15_Marks.mono_l k
  ·intro y0 y1 y2 y3 y4 y5
   unfold incunableref15_Marks.l0
   repeat' first
   | (with_reducible exact ih0 _ _ _ _ _ _)
   | (with_reducible exact incunableref15_spread.mono _ _ _ _ _ _ _ _ _)
   | (with_reducible first | exact LeO.refl _ | exact LeO.none _ | refine LeO.ite ?_ ?_ | refine LeO.bind ?_ (fun _ => ?_))
theorem incunableref15_Marks.mono : ∀ a0 a1 a2 k, LeO (incunableref15_Marks.f k a0 a1 a2) (incunableref15_Marks.f (k + 1) a0 a1 a2) := by
 intro a0 a1 a2 k
 have ih0 := incunableref15_Marks.mono_l k
 unfold incunableref15_Marks.f
 repeat' first
   | (with_reducible exact ih0 _ _ _ _ _ _)
   | (with_reducible exact incunableref15_spread.mono _ _ _ _ _ _ _ _ _)
   | (with_reducible first | exact LeO.refl _ | exact LeO.none _ | refine LeO.ite ?_ ?_ | refine LeO.bind ?_ (fun _ => ?_))
set_option maxHeartbeats 8000000 in
set_option maxRecDepth 100000 in
theorem incunableref15_Marks.calls (k : Nat) (a0_0 : Int) (a0_1 : Int) (A0_2 : Option Addr) (c0_2 : Nat) (l0_2 : List Int) (r1 : List Int) (r2 : Int) (w : World) (hr0_2 : Kd.C (Kd.int .u8) w A0_2 l0_2.length l0_2) (hc0_2 : l0_2.length ≤ c0_2) (h : incunableref15_Marks.f k a0_0 a0_1 l0_2 = some (r1, r2)) :
  Calls Try.prog 19 #[.agg #[.int .i64 a0_0, .int .i64 a0_1, .slice A0_2 l0_2.length c0_2]] w fun e w' => ∃ v0_ : Value, e = .returned (.tuple #[v0_, .int .i64 r2]) ∧ Kd.R (Kd.int .i64) 3 w' w.heap.size (fun _ => True) v0_ r1 ∧ Below w.heap.size w w' := by
 have hu24 := Try.underlying24
 have HR0_2 := Aside0.mk hr0_2
 have HC0_2 := Aside0.mk hc0_2
 clear hr0_2 hc0_2
 have HB := Aside0.mk (Below.refl w.heap.size w)
 have H := h
 unfold incunableref15_Marks.f at H
 clear h
 by_cases c2 : 0 ≤ (l0_2.length : Int)
 ·rw [if_pos c2] at H
  have c2b0 := eq_true c2
  have c2b1 := decide_eq_true c2
  clear c2
  by_cases c3 : ((l0_2.length : Int) : Int).toNat ≤ 35184372088832
  ·rw [if_pos c3] at H
   have c3b0 := eq_true c3
   have c3b1 := decide_eq_true c3
   clear c3
   obtain ⟨y314, hy_⟩ : ∃ y_ : List Int, y_ = (List.replicate ((l0_2.length : Int) : Int).toNat 0) := ⟨_, rfl⟩
   replace H : (incunableref15_Marks.l0 k y314 0 0 a0_0 a0_1 l0_2) = some (r1, r2) := rh
   have Ny314 := aE hy_
   clear hy_
   have H' := Aside0.mk H
   clear H
   go_enter Try.func19, Try.ntmps19
   go_wp2_with (first | ((with_reducible refine gd 1 rfl ?_); refine bx 1 #[.int .i64 a0_0, .int .i64 a0_1, .slice A0_2 l0_2.length c0_2] 24 rfl rfl ?_; intro gb313 hg w4 hbox hb; have n_ := aC (bs hb) (aC hbox (aC (gz hg) (aE (gz hg)))); clear HB; obtain ⟨HB, BK313, GW313, GE313⟩ := n_; clear hb hbox hg; obtain ⟨hcz5_0, hcz5_1, hcz5_2, hfz5_0, hfz5_1, hfz5_2⟩ := cz3f BK313.out) | ((with_reducible refine gd 10 rfl ?_); refine Kd.R_make (Kd.int .i64) _ 3 rfl (N := 10) rfl 38 _ _ rfl (l0_2.length : Int) rfl rfl Try.underlying38 (.int .i64 0) 8 info3 rfl (by decide) (by omega) 0 (ok := fun _ => True) (okp := fun _ => True) rfl (fun _ hk => hk) trivial (dt) (Nat.le_trans (Nat.mul_le_mul_right _ (dt : (l0_2.length : Int).toNat ≤ 35184372088832)) (by omega)) (Below.refl _ _) (Nat.le_refl _) ?_; intro v315 w6 ho7 hb hg_ hnew_; clear hg_ hnew_; (first | rw [← Ny314.out] at ho7 | (simp only [Int.reduceToNat] at ho7; rw [← Ny314.out] at ho7)); have n_ := aC (Kd.R_lower ho7 bz) (aC (blk_below (bU BK313.out) hb) (aE (bs hb))); clear BK313 HB; obtain ⟨HO316, BK313, HB⟩ := n_; clear hb ho7))
   go_loopg [5, 6] k (fun kq v5 v6 w' => ∃ (x4_1 : List Int) (x5_1 : Int) (x6_1 : Int), v5 = .int .i64 x5_1 ∧ v6 = .int .i64 x6_1 ∧ Aside0 (incunableref15_Marks.l0 kq x4_1 x5_1 x6_1 a0_0 a0_1 l0_2 = some (r1, r2)) ∧ Aside0 (kq ≤ k) ∧ Aside0 (Kd.R (Kd.int .i64) 3 w' w.heap.size (fun _ => True) v315 x4_1) ∧ Aside0 (w'.heap[gb313]? = some (.cells #[.int .i64 a0_0, .int .i64 a0_1, (.slice A0_2 l0_2.length c0_2)] 24 (0, 0))) ∧ Aside0 (Below w.heap.size w w'))
   case atStart => exact ⟨(y314), (0), (0), rq, rq, H', ⟨Nat.le_refl _⟩, ⟨rU HO316.out⟩, ⟨by exact bU BK313.out⟩, ⟨bl⟩⟩
   case round =>
    clear H'
    obtain ⟨x4_1, x5_1, x6_1, rfl, rfl, HA, HK1, HO_4, BK313, HB⟩ := hrel
    cases gk with
    | zero => exact absurd HA.out (by simp [incunableref15_Marks.l0])
    | succ k1 =>
     have H := HA.out
     clear HA
     simp only [incunableref15_Marks.l0] at H
     rcases iL H with H1 | H1 <;> clear H <;> obtain ⟨H, c8b0⟩ := H1
     ·by_cases c9 : 0 ≤ x6_1
      ·rw [if_pos c9] at H
       have c9b0 := decide_eq_true c9
       clear c9
       rcases iE H with H1 | H1 <;> clear H <;> obtain ⟨H, c10b0, c10b1, c10⟩ := H1
       ·by_cases c11 : x6_1 < (x4_1.length : Int)
        ·rw [if_pos c11] at H
         have c11b0 := decide_eq_true c11
         clear c11
         rcases iE H with H1 | H1 <;> clear H <;> obtain ⟨H, c12b0, c12b1, c12⟩ := H1
         ·obtain ⟨⟨t319, t320⟩, A13, H⟩ := oB H
          try dsimp only at H
          have H' := Aside0.mk H
          clear H
          obtain ⟨hcz14_0, hcz14_1, hcz14_2, hfz14_0, hfz14_1, hfz14_2⟩ := cz3f BK313.out
          have p317 : 0 ≤ (x6_1 : Int) := dt
          have q317 : x6_1 < (l0_2.length : Int) := dt
          obtain ⟨ad317, e317, hx317_0⟩ := Kd.at_int HR0_2.out x6_1 p317 q317
          cases e317
          replace hx317_0 := hcB HB.out hx317_0
          replace p317 := eq_true p317
          replace q317 := eq_true q317
          obtain ⟨Ao15, co15, eo15⟩ := Kd.R_slice HO_4.out
          subst eo15
          have p318 : 0 ≤ (x6_1 : Int) := dt
          have q318 : x6_1 < (x4_1.length : Int) := dt
          obtain ⟨ad318, e318, hx318_0⟩ := Kd.at_int (Kd.R_reads' HO_4.out).2.2 x6_1 p318 q318
          cases e318
          replace p318 := eq_true p318
          replace q318 := eq_true q318
          go_wp2_with (first | ((with_reducible refine gf 33 rfl ?_); refine gL (some 37) rfl rfl Try.func33 rfl #[.agg #[.int .i64 a0_0, .int .i64 a0_1, .slice (some ad317) l0_2.length c0_2], .slice (some ad318) x4_1.length co15, .int .i64 x6_1, .int .i64 (wrap64 (x5_1 + 1)), .int .i64 1, .bool true] rfl ?_; (with_reducible refine (incunableref15_spread.calls k1 a0_0 a0_1 _ _ l0_2 (fun k_ => some k_ = (.slice (some ad318) x4_1.length co15 : Value).ownBlock) (.slice (some ad318) x4_1.length co15) x4_1 x6_1 (wrap64 (x5_1 + 1)) 1 true t319 t320 w _ ?side1 ?side2 ?side3 ?side4 A13.out).mono ?_); (case side1 => repeat (first | (with_reducible first | exact HB.out | apply below_alloc | apply pw_below_drewN | apply below_drew1 | refine below_set ?_ GE313.out) | exact HB.out)); (case side2 => exact Kd.C_kept_came (Kd.heap_int .u8) HR0_2.out bl (fun k_ hs_ => (fun e_ => Kd.R_base HO_4.out k_ e_.symm) hs_)); (case side3 => exact HC0_2.out); (case side4 => exact Kd.R_tight rfl HO_4.out); rintro e w16 ⟨rfl, hy0, hb, hkp⟩; refine ⟨_, rfl, ?_⟩; have n_ := aC (Kd.R_reok rfl hy0 (fun k_ e_ => HO_4.out.1 k_ e_)) (aC (blk_kept (bU BK313.out) hkp (fun hs_ => (fun e_ => (Kd.R_ne HO_4.out BK313.out (by decide)) e_) hs_)) (aE hb)); clear HO_4 BK313 HB; obtain ⟨HO_4, BK313, HB⟩ := n_))
          go_roundg k1
          case measure => have := HK1.out; omega
          case rel => exact ⟨(t320), (wrap64 (x5_1 + 1)), (wrap64 (x6_1 + 1)), rq, rq, H', ⟨by have := HK1.out; omega⟩, ⟨rU HO_4.out⟩, ⟨by exact bU BK313.out⟩, ⟨bl⟩⟩
         ·have H' := Aside0.mk H
          clear H
          obtain ⟨hcz17_0, hcz17_1, hcz17_2, hfz17_0, hfz17_1, hfz17_2⟩ := cz3f BK313.out
          have p317 : 0 ≤ (x6_1 : Int) := dt
          have q317 : x6_1 < (l0_2.length : Int) := dt
          obtain ⟨ad317, e317, hx317_0⟩ := Kd.at_int HR0_2.out x6_1 p317 q317
          cases e317
          replace hx317_0 := hcB HB.out hx317_0
          replace p317 := eq_true p317
          replace q317 := eq_true q317
          obtain ⟨Ao18, co18, eo18⟩ := Kd.R_slice HO_4.out
          subst eo18
          have p318 : 0 ≤ (x6_1 : Int) := dt
          have q318 : x6_1 < (x4_1.length : Int) := dt
          obtain ⟨ad318, e318, hx318_0⟩ := Kd.at_int (Kd.R_reads' HO_4.out).2.2 x6_1 p318 q318
          cases e318
          replace p318 := eq_true p318
          replace q318 := eq_true q318
          go_wp2
          go_roundg k1
          case measure => have := HK1.out; omega
          case rel => exact ⟨(x4_1), (x5_1), (wrap64 (x6_1 + 1)), rq, rq, H', ⟨by have := HK1.out; omega⟩, ⟨rU HO_4.out⟩, ⟨by exact bU BK313.out⟩, ⟨bl⟩⟩
        ·rw [if_neg c11] at H
         exact absurd H (by simp)
       ·have H' := Aside0.mk H
        clear H
        obtain ⟨hcz19_0, hcz19_1, hcz19_2, hfz19_0, hfz19_1, hfz19_2⟩ := cz3f BK313.out
        have p317 : 0 ≤ (x6_1 : Int) := dt
        have q317 : x6_1 < (l0_2.length : Int) := dt
        obtain ⟨ad317, e317, hx317_0⟩ := Kd.at_int HR0_2.out x6_1 p317 q317
        cases e317
        replace hx317_0 := hcB HB.out hx317_0
        replace p317 := eq_true p317
        replace q317 := eq_true q317
        go_wp2
        go_roundg k1
        case measure => have := HK1.out; omega
        case rel => exact ⟨(x4_1), (x5_1), (wrap64 (x6_1 + 1)), rq, rq, H', ⟨by have := HK1.out; omega⟩, ⟨rU HO_4.out⟩, ⟨by exact bU BK313.out⟩, ⟨bl⟩⟩
      ·rw [if_neg c9] at H
       exact absurd H (by simp)
     ·simp only [Option.some.injEq, Prod.mk.injEq] at H
      obtain ⟨rfl, rfl⟩ := H
      obtain ⟨hcz20_0, hcz20_1, hcz20_2, hfz20_0, hfz20_1, hfz20_2⟩ := cz3f BK313.out
      go_wp2
      go_ret2
      exact ⟨_, re, rU HO_4.out, bl⟩
  ·rw [if_neg c3] at H
   exact absurd H (by simp)
 ·rw [if_neg c2] at H
  exact absurd H (by simp)
def incunableref05_Copy.f (a0_0 : Int) (a0_1 : Int) (l0_2 : List Int) : Option (Int × Int × List Int) := (some (([] : List Int) : List Int)).bind fun y323 => (if y323.length + l0_2.length < 140737488355328 then (some (a0_0, a0_1, (y323 ++ l0_2))) else (none))
def incunableref05_Copy.T1 : Bool × List (List Nat × List Nat) := (true, [([], []), ([0], [0]), ([], []), ([2], [2]), ([], []), ([], []), ([5], [5]), ([4, 6], [4, 6]), ([1, 3, 7], [1, 3, 7]), ([8, 7, 0, 1, 2, 3, 4, 5, 6, 7, 8], [8])])
def incunableref05_Copy.B1 : List Nat := [0, 1, 0, 4, 0, 0, 32, 112, 255, 511]
theorem incunableref05_Copy.tab1 : rtab .any (opsOf Try.f20 1) = incunableref05_Copy.T1 := by kernel_rfl
theorem incunableref05_Copy.bits1 : waitsOk incunableref05_Copy.T1.2 incunableref05_Copy.B1 = true := by kernel_rfl
set_option maxHeartbeats 8000000 in
set_option maxRecDepth 100000 in
theorem incunableref05_Copy.calls (a0_0 : Int) (a0_1 : Int) (A0_2 : Option Addr) (c0_2 : Nat) (l0_2 : List Int) (r1 : Int) (r2 : Int) (r3 : List Int) (w : World) (hr0_2 : Kd.C (Kd.int .u8) w A0_2 l0_2.length l0_2) (hc0_2 : l0_2.length ≤ c0_2) (h : incunableref05_Copy.f a0_0 a0_1 l0_2 = some (r1, r2, r3)) :
  Calls Try.prog 20 #[.agg #[.int .i64 a0_0, .int .i64 a0_1, .slice A0_2 l0_2.length c0_2]] w fun e w' => ∃ v2_ : Value, e = .returned (.agg #[.int .i64 r1, .int .i64 r2, v2_]) ∧ Kd.R (Kd.int .u8) 5 w' w.heap.size (fun _ => True) v2_ r3 ∧ Below w.heap.size w w' := by
 have hu24 := Try.underlying24
 have HR0_2 := Aside0.mk hr0_2
 have HC0_2 := Aside0.mk hc0_2
 clear hr0_2 hc0_2
 have HB := Aside0.mk (Below.refl w.heap.size w)
 have H := h
 unfold incunableref05_Copy.f at H
 clear h
 obtain ⟨y323, hy_⟩ : ∃ y_ : List Int, y_ = (([] : List Int)) := ⟨_, rfl⟩
 replace H : (if y323.length + l0_2.length < 140737488355328 then (some (a0_0, a0_1, (y323 ++ l0_2))) else (none)) = some (r1, r2, r3) := rh
 have Ny323 := aE hy_
 clear hy_
 by_cases c2 : y323.length + l0_2.length < 140737488355328
 ·rw [if_pos c2] at H
  have LMc2 := Aside0.mk c2
  clear c2
  obtain ⟨y326, hy_⟩ : ∃ y_ : List Int, y_ = (y323 ++ l0_2) := ⟨_, rfl⟩
  replace H : (some (a0_0, a0_1, y326)) = some (r1, r2, r3) := rh
  have Ny326 := aE hy_
  clear hy_
  simp only [Option.some.injEq, Prod.mk.injEq] at H
  obtain ⟨rfl, rfl, rfl⟩ := H
  go_enter Try.func20, Try.ntmps20
  try go_wp2_with (first | ((with_reducible refine gd 1 rfl ?_); refine bx 1 #[.int .i64 a0_0, .int .i64 a0_1, .slice A0_2 l0_2.length c0_2] 24 rfl rfl ?_; intro gb321 hg w3 hbox hb; have n_ := aC (bs hb) (aC hbox (aC (gz hg) (aE (gz hg)))); clear HB; obtain ⟨HB, BK321, GW321, GE321⟩ := n_; clear hb hbox hg) | ((with_reducible refine gd 2 rfl ?_); refine bx 2 #[.int .i64 0, .int .i64 0, .slice none 0 0] 24 rfl rfl ?_; intro gb322 hg w4 hbox hb; have n_ := aC (blk_below (bU BK321.out) hb) (aC (bs hb) (aC hbox (aC (gz hg) (aC (gz hg) (aC (gn hg (bU BK321.out)) (aE (gm hg (bU BK321.out)))))))); clear BK321 HB; obtain ⟨BK321, HB, BK322, GW322, GE322, NB321_322, NB322_321⟩ := n_; clear hb hbox hg))
  have n_ := aC (blk_drew BK321.out) (aC (blk_drew BK322.out) (aE (below_drew1 HB.out)))
  clear BK321 BK322 HB
  obtain ⟨BK321, BK322, HB⟩ := n_
  refine st 10 (fun w' => w'.cell? ⟨gb321, 0, none⟩ = some (.int .i64 a0_0) ∧ w'.cell? ⟨gb321, 1, none⟩ = some (.int .i64 a0_1) ∧ w'.cell? ⟨gb321, 2, none⟩ = some (.slice A0_2 l0_2.length c0_2)) [] (bv 10 0) incunableref05_Copy.tab1 incunableref05_Copy.bits1 ⟨kc0 BK321.out, kc1 BK321.out, kc2 BK321.out⟩ (fun hHeld HT_ HW_ => ?_)
  generalize w4.drew = w5 at BK321 BK322 HB hHeld ⊢
  refine pu 0 3 (bv 10 1) HT_ rfl rfl ?_
  refine pu 2 5 (bv 10 5) HT_ rfl rfl ?_
  refine pu 5 8 (bv 10 37) HT_ rfl rfl ?_
  refine tk 1 4 (bv 10 39) HT_ HW_ hHeld rfl rfl (by rintro w' ⟨s0, s1, s2⟩; exact yl) ?_
  refine tk 3 6 (bv 10 47) HT_ HW_ hHeld rfl rfl (by rintro w' ⟨s0, s1, s2⟩; exact yl) ?_
  refine tk 6 9 (bv 10 111) HT_ HW_ hHeld rfl rfl (by rintro w' ⟨s0, s1, s2⟩; exact yl) ?_
  refine one_ (i := 4) (N := some 7) (bv 10 127) rfl rfl (one_of HT_.out (by kernel_rfl)) (by decide) (fun K hK => ?_)
  refine Kd.R_lit_step (Kd.int .u8) _ 5 ?hg (N := 7) ?hd (xs := ([] : List Int)) (inner := []) (ok := fun _ => True) (okp := fun _ => True) ?hr ?hp (fun _ hk => hk) trivial (Below.refl _ _) (Nat.le_refl _) (by simp) ?_; (case hd => rfl); (case hg => rfl); (case hr => first | (go_simp; done) | (go_simp; rfl)); (case hp => exact (Reps.none _ _))
  intro v324 w6 ho7 hb hg_ hnew_
  clear hg_ hnew_
  (first | rw [← Ny323.out] at ho7 | (simp only [Int.reduceToNat] at ho7; rw [← Ny323.out] at ho7))
  have n_ := aC (Kd.R_lower ho7 bz) (aC (blk_below (bU BK321.out) hb) (aC (blk_below (bU BK322.out) hb) (aE (bs hb))))
  clear BK321 BK322 HB
  obtain ⟨HO325, BK321, BK322, HB⟩ := n_
  clear hb ho7
  refine hK.out _ _ ⟨kc0 BK321.out, kc1 BK321.out, kc2 BK321.out⟩ (fun hHeld => ?_)
  clear hK K
  refine nm (some 7) ?_
  refine one_ (i := 7) (N := some 10) (bv 10 255) rfl rfl (one_of HT_.out (by kernel_rfl)) (by decide) (fun K hK => ?_)
  refine Kd.R_append_rows_step (Kd.int .u8) (w0 := w) w.heap.size (by rfl) (.tmp 7) (.tmp 9) 22 5 (.int .u8 0) 1 rfl Try.underlying22 info5 rfl (by decide) (by omega) v324 y323 l0_2 _ _ _ (fun _ => True) (fun _ => False) rfl rfl ?aO ?aR (fun _ _ h => h) (fun _ h => h.elim) ?aF ?aB ?aS ?aL ?_
  (case aR => repeat (first | exact (Kd.C_below HR0_2.out HB.out) | (with_reducible refine Kd.C_alloc ?_ _) | (with_reducible refine Kd.C_drewN ?_ _) | (with_reducible refine Kd.C_drew ?_)))
  (case aB => exact bl)
  (case aF => exact (fun _ _ => trivial))
  (case aO => exact (rU HO325.out))
  (case aS => exact bz)
  (case aL => have := LMc2.out; omega)
  intro v327 w8 ho hb hg hat
  rw [← Ny326.out] at ho
  have n_ := aC (blk_grown (bU BK321.out) hg (Kd.R_ne HO325.out BK321.out (by decide))) (aC (blk_grown (bU BK322.out) hg (Kd.R_ne HO325.out BK322.out (by decide))) (aC hb (aE ho)))
  clear BK321 BK322 HB HO325
  obtain ⟨BK321, BK322, HB, HO328⟩ := n_
  clear ho hb hg hat
  obtain ⟨Ao9, co9, eo9⟩ := Kd.R_slice HO328.out
  (first | subst eo9 | (injection eo9 with f1_ f2_ f3_; have f4_ := f1_.symm; have f5_ := f3_.symm; clear f1_ f2_ f3_; subst f4_; subst f5_))
  refine hK.out _ _ ⟨kc0 BK321.out, kc1 BK321.out, kc2 BK321.out⟩ (fun hHeld => ?_)
  clear hK K
  refine nm (some 10) ?_
  refine pu 8 11 (bv 10 511) HT_ rfl rfl ?_
  refine one_ (i := 9) (N := none) (bv 10 1023) rfl rfl (one_of HT_.out (by kernel_rfl)) (by decide) (fun K hK => ?_)
  have hs10 : w8.cell? ⟨gb322, 0, none⟩ = some (.int .i64 0) := (blk_cell BK322.out 0).trans rfl
  have hfs10 := blk_frozen BK322.out 0
  have hns10_0 := NB321_322.out
  have hms10_0 := NB322_321.out
  have hs11 : w8.cell? ⟨gb322, 1, none⟩ = some (.int .i64 0) := (blk_cell BK322.out 1).trans rfl
  have hfs11 := blk_frozen BK322.out 1
  have hns11_0 := NB321_322.out
  have hms11_0 := NB322_321.out
  have hs12 : w8.cell? ⟨gb322, 2, none⟩ = some (.slice none 0 0) := (blk_cell BK322.out 2).trans rfl
  have hfs12 := blk_frozen BK322.out 2
  have hns12_0 := NB321_322.out
  have hms12_0 := NB322_321.out
  refine skip_ (w1 := ?_) (by rfl) rfl ?_ ?_
  rotate_left
  ·go_simp
   rfl
  refine hK.out _ _ ⟨((cell_far (p := ⟨gb322, _, none⟩) NB321_322.out _).trans (((cell_far (p := ⟨gb322, _, none⟩) NB321_322.out _).trans (((cell_far (p := ⟨gb322, _, none⟩) NB321_322.out _).trans (hHeld.1)))))), ((cell_far (p := ⟨gb322, _, none⟩) NB321_322.out _).trans (((cell_far (p := ⟨gb322, _, none⟩) NB321_322.out _).trans (((cell_far (p := ⟨gb322, _, none⟩) NB321_322.out _).trans (hHeld.2.1)))))), ((cell_far (p := ⟨gb322, _, none⟩) NB321_322.out _).trans (((cell_far (p := ⟨gb322, _, none⟩) NB321_322.out _).trans (((cell_far (p := ⟨gb322, _, none⟩) NB321_322.out _).trans (hHeld.2.2))))))⟩ (fun hHeld => ?_)
  clear hK K
  refine done_ (done_of HT_.out (by kernel_rfl)) ?_
  try go_wp2
  refine bodyPost_ret (results_cell_row rfl _ _ gb322 24 #[.int .i64 a0_0, .int .i64 a0_1, .slice Ao9 y326.length co9] (0, 0) _ rfl (by (with_reducible repeat (first | refine blk_drewN ?_ _ | refine blk_drew ?_ | refine blk_alloc ?_ _)); refine blk_put (cs := #[.int .i64 a0_0, .int .i64 a0_1, .slice none 0 0]) ?_ 2 _ rfl; (with_reducible repeat (first | refine blk_drewN ?_ _ | refine blk_drew ?_ | refine blk_alloc ?_ _)); refine blk_put (cs := #[.int .i64 a0_0, .int .i64 0, .slice none 0 0]) ?_ 1 _ rfl; (with_reducible repeat (first | refine blk_drewN ?_ _ | refine blk_drew ?_ | refine blk_alloc ?_ _)); refine blk_put (cs := #[.int .i64 0, .int .i64 0, .slice none 0 0]) ?_ 0 _ rfl; exact bU BK322.out) Try.underlying24 rfl (by kernel_rfl)) rfl ?_
  exact ⟨_, re, rU (Kd.R_mono (Kd.R_far (p := ⟨gb322, 2, none⟩) (Kd.R_far (p := ⟨gb322, 1, none⟩) (Kd.R_far (p := ⟨gb322, 0, none⟩) (Kd.R_types HO328.out BK322.out (by decide)) (fun _ hk => hk.2) (.int .i64 a0_0)) (fun _ hk => hk.2) (.int .i64 a0_1)) (fun _ hk => hk.2) (.slice Ao9 y326.length co9)) (fun _ hk => trivial)), bl⟩
 ·rw [if_neg c2] at H
  exact absurd H (by simp)
end Go.Proofs.Ytnnbfkmmjclhaaa.PScanSpecks
