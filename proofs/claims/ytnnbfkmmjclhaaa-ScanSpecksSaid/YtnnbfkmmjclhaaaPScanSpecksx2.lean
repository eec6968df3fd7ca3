-- printed (wip/tools/myprint.py)
import Derived.Test.YtnnbfkmmjclhaaaPScanSpecksx0
import Derived.Test.YtnnbfkmmjclhaaaPScanSpecksx1
namespace Go.Proofs.Ytnnbfkmmjclhaaa.PScanSpecks
open Go.RowKit Go.Proofs.YtnnbfkmmjclhaaaW.PrintWords Go.Proofs.YtnnbfkmmjclhaaaW.PrintLast Go.Proofs.YtnnbfkmmjclhaaaW.PrintMore
attribute [local go_sem] max2_int min2_int max_two min_two max_three min_three max_four min_four
set_option linter.unusedVariables false
set_option linter.unusedSimpArgs false
mutual
def bitmap_New.j0 : Nat → Int → Int → Int → Bool → Option (Int × Int × List Int × Int)
 | 0, _, _, _, _ => none
 | k + 1, x0, x1, x2, x24 => if x24 = true then (some (0, 0, ([] : List Int), 2)) else ((bitmap_blank.f x0 x1).bind fun bt129 => (bitmap_New.l0 k x2 bt129.2.2.2 (bt129.2.2.1.length : Int) 0 bt129.1 bt129.2.1 bt129.2.2.1))
def bitmap_New.l0 : Nat → Int → Int → Int → Int → Int → Int → List Int → Option (Int × Int × List Int × Int)
 | 0, _, _, _, _, _, _, _ => none
 | k + 1, x2, x9, x34, x35, x136000, x136001, x136002 => if x35 < x34 then (if 0 ≤ x35 then (if x35 < (x136002.length : Int) then (bitmap_New.l0 k x2 x9 x34 (wrap64 (x35 + 1)) x136000 x136001 (x136002.set (x35 : Int).toNat ((x2) % 256))) else (none)) else (none)) else (some (x136000, x136001, x136002, x9))
end
def bitmap_New.f (k : Nat) (a0 : Int) (a1 : Int) (a2 : Int) : Option (Int × Int × List Int × Int) := if a0 < 0 then (bitmap_New.j0 k a0 a1 a2 true) else (if a1 < 0 then (bitmap_New.j0 k a0 a1 a2 true) else (if a2 = 0 then (bitmap_New.j0 k a0 a1 a2 false) else (bitmap_New.j0 k a0 a1 a2 (a2 != 1))))
theorem bitmap_New.mono_l : ∀ k, (∀ y0 y1 y2 y3, LeO (bitmap_New.j0 k y0 y1 y2 y3) (bitmap_New.j0 (k + 1) y0 y1 y2 y3)) ∧ (∀ y0 y1 y2 y3 y4 y5 y6, LeO (bitmap_New.l0 k y0 y1 y2 y3 y4 y5 y6) (bitmap_New.l0 (k + 1) y0 y1 y2 y3 y4 y5 y6))
 | 0 => ⟨fun _ _ _ _ r h => by simp [bitmap_New.j0] at h, fun _ _ _ _ _ _ _ r h => by simp [bitmap_New.l0] at h⟩
 | k + 1 => by
  obtain ⟨ih0, ih1⟩ := bitmap_New.mono_l k
  refine ⟨?_, ?_⟩
  ·intro y0 y1 y2 y3
   unfold bitmap_New.j0
   repeat' first
   | (with_reducible exact ih0 _ _ _ _)
   | (with_reducible exact ih1 _ _ _ _ _ _ _)
   | (with_reducible first | exact LeO.refl _ | exact LeO.none _ | refine LeO.ite ?_ ?_ | refine LeO.bind ?_ (fun _ => ?_))
  ·intro y0 y1 y2 y3 y4 y5 y6
   unfold bitmap_New.l0
   repeat' first
   | (with_reducible exact ih0 _ _ _ _)
   | (with_reducible exact ih1 _ _ _ _ _ _ _)
   | (with_reducible first | exact LeO.refl _ | exact LeO.none _ | refine LeO.ite ?_ ?_ | refine LeO.bind ?_ (fun _ => ?_))
theorem bitmap_New.mono : ∀ a0 a1 a2 k, LeO (bitmap_New.f k a0 a1 a2) (bitmap_New.f (k + 1) a0 a1 a2) := by
 intro a0 a1 a2 k
 obtain ⟨ih0, ih1⟩ := bitmap_New.mono_l k
 unfold bitmap_New.f
 repeat' first
   | (with_reducible exact ih0 _ _ _ _)
   | (with_reducible exact ih1 _ _ _ _ _ _ _)
   | (with_reducible first | exact LeO.refl _ | exact LeO.none _ | refine LeO.ite ?_ ?_ | refine LeO.bind ?_ (fun _ => ?_))
set_option maxHeartbeats 8000000 in
set_option maxRecDepth 100000 in
theorem bitmap_New.calls (k : Nat) (a0 : Int) (a1 : Int) (a2 : Int) (r1 : Int) (r2 : Int) (r3 : List Int) (r4 : Int) (w : World) (h : bitmap_New.f k a0 a1 a2 = some (r1, r2, r3, r4)) :
  Calls Try.prog 28 #[.int .i64 a0, .int .i64 a1, .int .i64 a2] w fun e w' => ∃ v2_ : Value, e = .returned (.tuple #[.agg #[.int .i64 r1, .int .i64 r2, v2_], .int .i64 r4]) ∧ Kd.R (Kd.int .u8) 5 w' w.heap.size (fun _ => True) v2_ r3 ∧ Below w.heap.size w w' := by
 have hu24 := Try.underlying24
 have HB := Aside0.mk (Below.refl w.heap.size w)
 have H := h
 unfold bitmap_New.f at H
 clear h
 have HC4 := Aside0.mk H
 clear H
 go_enter Try.func28, Try.ntmps28
 go_upto_region 1 with (first | ((with_reducible refine gd 6 rfl ?_); refine bx 6 #[.int .i64 0, .int .i64 0, .slice none 0 0] 24 rfl rfl ?_; intro gb128 hg w5 hbox hb; have n_ := aC (bs hb) (aC hbox (aC (gz hg) (aE (gz hg)))); clear HB; obtain ⟨HB, BK128, GW128, GE128⟩ := n_; clear hb hbox hg))
 (try simp only [Act.put, List.setIfInBounds_toArray, List.set_cons_zero, List.set_cons_succ])
 go_cut [24] (fun v24 wc => ∃ (kq : Nat) (x24_3 : Bool), v24 = .bool x24_3 ∧ Aside0 (bitmap_New.j0 kq a0 a1 a2 x24_3 = some (r1, r2, r3, r4)) ∧ Aside0 (kq ≤ k) ∧ Aside0 (wc.heap[gb128]? = some (.cells #[.int .i64 0, .int .i64 0, (.slice none 0 0)] 24 (0, 0))) ∧ Aside0 (Below w.heap.size w wc))
 case first =>
  have H := HC4.out
  clear HC4
  rcases iL H with H1 | H1 <;> clear H <;> obtain ⟨H, c6b0⟩ := H1
  ·(first | rw [c6b0] | (simp only [i64_w, i32_w]; rw [c6b0]) | skip)
   have H' := Aside0.mk H
   clear H
   go_wp2
   go_meet
   case rel => exact ⟨_, (true), rq, H', ⟨by first | omega | exact Nat.le_refl _⟩, ⟨by exact bU BK128.out⟩, ⟨bl⟩⟩
  ·(first | rw [c6b0] | (simp only [i64_w, i32_w]; rw [c6b0]) | skip)
   rcases iL H with H1 | H1 <;> clear H <;> obtain ⟨H, c7b0⟩ := H1
   ·have H' := Aside0.mk H
    clear H
    go_wp2
    go_meet
    case rel => exact ⟨_, (true), rq, H', ⟨by first | omega | exact Nat.le_refl _⟩, ⟨by exact bU BK128.out⟩, ⟨bl⟩⟩
   ·rcases iE H with H1 | H1 <;> clear H <;> obtain ⟨H, c8b0, c8b1, c8⟩ := H1
    ·have H' := Aside0.mk H
     clear H
     go_wp2
     go_meet
     case rel => exact ⟨_, (false), rq, H', ⟨by first | omega | exact Nat.le_refl _⟩, ⟨by exact bU BK128.out⟩, ⟨bl⟩⟩
    ·have H' := Aside0.mk H
     clear H
     go_wp2
     go_meet
     case rel => exact ⟨_, ((a2 != 1)), rq, H', ⟨by first | omega | exact Nat.le_refl _⟩, ⟨by exact bU BK128.out⟩, ⟨bl⟩⟩
 case rest =>
  clear HC4
  obtain ⟨kq, x24_3, rfl, HA, HJ3, BK128, HB⟩ := hcut
  cases kq with
  | zero => exact absurd HA.out (by simp [bitmap_New.j0])
  | succ kj3 =>
   have H := HA.out
   clear HA
   simp only [bitmap_New.j0] at H
   by_cases c9 : x24_3 = true
   ·subst c9
    rw [if_pos rfl] at H
    simp only [Option.some.injEq, Prod.mk.injEq] at H
    obtain ⟨rfl, rfl, rfl, rfl⟩ := H
    obtain ⟨hcz10_0, hcz10_1, hcz10_2, hfz10_0, hfz10_1, hfz10_2⟩ := cz3f BK128.out
    go_wp2
    refine bodyPost_ret (results_ct rfl _ _ gb128 24 #[.int .i64 0, .int .i64 0, .slice none 0 0] (0, 0) _ rfl (by (with_reducible repeat (first | refine blk_drewN ?_ _ | refine blk_drew ?_ | refine blk_alloc ?_ _)); refine blk_put (cs := #[.int .i64 0, .int .i64 0, .slice none 0 0]) ?_ 2 _ rfl; (with_reducible repeat (first | refine blk_drewN ?_ _ | refine blk_drew ?_ | refine blk_alloc ?_ _)); refine blk_put (cs := #[.int .i64 0, .int .i64 0, .slice none 0 0]) ?_ 1 _ rfl; (with_reducible repeat (first | refine blk_drewN ?_ _ | refine blk_drew ?_ | refine blk_alloc ?_ _)); refine blk_put (cs := #[.int .i64 0, .int .i64 0, .slice none 0 0]) ?_ 0 _ rfl; exact bU BK128.out) Try.underlying24 rfl (by kernel_rfl)) rfl ?_
    exact ⟨_, re, by first | exact Kd.R_nil _ _ _ _ _ | exact Kd.N_nil _ _ _ _ _ | exact Kd.V_nil _ _ _ _ _ | exact Kd.Q_nil _ _ _ _ _ | exact Kd.S_nil _ _ _ _ _, bl⟩
   ·replace c9 := Bool.eq_false_iff.mpr c9
    subst c9
    rw [if_neg Bool.false_ne_true] at H
    obtain ⟨⟨t129, t130, t131, t134⟩, A11, H⟩ := oB H
    try dsimp only at H
    have H' := Aside0.mk H
    clear H
    go_wp2_with (first | ((with_reducible refine gf 43 rfl ?_); refine gL (some 29) rfl rfl Try.func43 rfl #[.int .i64 a0, .int .i64 a1] rfl ?_; (with_reducible refine (bitmap_blank.calls a0 a1 t129 t130 t131 t134 _ A11.out).mono ?_); rintro e w12 ⟨v132, rfl, ho0, hb⟩; refine ⟨_, rfl, ?_⟩; have n_ := aC (Kd.R_lower ho0 bz) (aC (blk_below (bU BK128.out) hb) (aE (bs hb))); clear BK128 HB; obtain ⟨HO133, BK128, HB⟩ := n_) | ((with_reducible refine gd 8 rfl ?_); refine bx 8 #[.int .i64 0, .int .i64 0, .slice none 0 0] 24 rfl rfl ?_; intro gb135 hg w13 hbox hb; have n_ := aC (Kd.R_below (rU HO133.out) hb) (aC (blk_below (bU BK128.out) hb) (aC (bs hb) (aC hbox (aC (gz hg) (aC (gz hg) (aC (gn hg (bU BK128.out)) (aE (gm hg (bU BK128.out))))))))); clear HO133 BK128 HB; obtain ⟨HO133, BK128, HB, BK135, GW135, GE135, NB128_135, NB135_128⟩ := n_; clear hb hbox hg; have hnb14 := NB135_128.out; have hnc14 := NB128_135.out; obtain ⟨hcz15_0, hcz15_1, hcz15_2, hfz15_0, hfz15_1, hfz15_2⟩ := cz3f BK135.out; obtain ⟨Ao16, co16, eo16⟩ := Kd.R_slice HO133.out; subst eo16))
    go_loopg [35] kj3 (fun kq v35 w' => ∃ (x35_2 : Int) (x136002_2 : List Int) (u136002 : Value), v35 = .int .i64 x35_2 ∧ Aside0 (bitmap_New.l0 kq a2 t134 (t131.length : Int) x35_2 t129 t130 x136002_2 = some (r1, r2, r3, r4)) ∧ Aside0 (kq ≤ kj3) ∧ Aside0 (Kd.R (Kd.int .u8) 5 w' w.heap.size (fun _ => True) u136002 x136002_2) ∧ Aside0 (w'.heap[gb128]? = some (.cells #[.int .i64 0, .int .i64 0, (.slice none 0 0)] 24 (0, 0))) ∧ Aside0 (w'.heap[gb135]? = some (.cells #[.int .i64 t129, .int .i64 t130, u136002] 24 (0, 0))) ∧ Aside0 (Below w.heap.size w w'))
    case atStart => exact ⟨(0), (t131), (.slice Ao16 t131.length co16), rq, H', ⟨Nat.le_refl _⟩, ⟨rU (Kd.R_mono (Kd.R_far (p := ⟨gb135, 2, none⟩) (Kd.R_far (p := ⟨gb135, 1, none⟩) (Kd.R_far (p := ⟨gb135, 0, none⟩) (Kd.R_types HO133.out BK135.out (by decide)) (fun _ hk => hk.2) (.int .i64 t129)) (fun _ hk => hk.2) (.int .i64 t130)) (fun _ hk => hk.2) (.slice Ao16 t131.length co16)) (fun _ hk => trivial))⟩, ⟨by refine bF ?_ ?_; exact NB128_135.out; refine bF ?_ ?_; exact NB128_135.out; refine bF ?_ ?_; exact NB128_135.out; exact bU BK128.out⟩, ⟨by (with_reducible repeat (first | refine blk_drewN ?_ _ | refine blk_drew ?_ | refine blk_alloc ?_ _)); refine blk_put (cs := #[.int .i64 t129, .int .i64 t130, .slice none 0 0]) ?_ 2 _ rfl; (with_reducible repeat (first | refine blk_drewN ?_ _ | refine blk_drew ?_ | refine blk_alloc ?_ _)); refine blk_put (cs := #[.int .i64 t129, .int .i64 0, .slice none 0 0]) ?_ 1 _ rfl; (with_reducible repeat (first | refine blk_drewN ?_ _ | refine blk_drew ?_ | refine blk_alloc ?_ _)); refine blk_put (cs := #[.int .i64 0, .int .i64 0, .slice none 0 0]) ?_ 0 _ rfl; exact bU BK135.out⟩, ⟨bl⟩⟩
    case round =>
     clear H'
     obtain ⟨x35_2, x136002_2, u136002, rfl, HA, HK2, HO_136002, BK128, BK135, HB⟩ := hrel
     cases gk with
     | zero => exact absurd HA.out (by simp [bitmap_New.l0])
     | succ k2 =>
      have H := HA.out
      clear HA
      simp only [bitmap_New.l0] at H
      rcases iL H with H1 | H1 <;> clear H <;> obtain ⟨H, c17b0⟩ := H1
      ·by_cases c18 : 0 ≤ x35_2
       ·rw [if_pos c18] at H
        have c18b0 := decide_eq_true c18
        clear c18
        by_cases c19 : x35_2 < (x136002_2.length : Int)
        ·rw [if_pos c19] at H
         have c19b0 := decide_eq_true c19
         clear c19
         obtain ⟨y136, hy_⟩ : ∃ y_ : List Int, y_ = (x136002_2.set (x35_2 : Int).toNat ((a2) % 256)) := ⟨_, rfl⟩
         replace H : (bitmap_New.l0 k2 a2 t134 (t131.length : Int) (wrap64 (x35_2 + 1)) t129 t130 y136) = some (r1, r2, r3, r4) := rh
         have Ny136 := aE hy_
         clear hy_
         have H' := Aside0.mk H
         clear H
         have hnb21 := NB135_128.out
         have hnc21 := NB128_135.out
         obtain ⟨hcz22_0, hcz22_1, hcz22_2, hfz22_0, hfz22_1, hfz22_2⟩ := cz3f BK135.out
         have p20 : 0 ≤ (x35_2 : Int) := dt
         have q20 : (x35_2 : Int) < ((x136002_2.length : Int) : Int) := dt
         obtain ⟨go20, co20, eo20, gb20, gl20, cl20, HG20⟩ := Kd.R_form HO_136002.out (by omega)
         (first | cases eo20 | (injection eo20 with ea_ en_ ec_; (first | subst ea_ | (injection ea_ with ea_; subst ea_)); subst ec_; clear en_))
         have GB20 := Aside0.mk gb20
         have GG20 := Aside0.mk HG20
         clear gb20 gl20 HG20
         obtain ⟨hx20_0, hf20_0⟩ := Kd.R_celln 0 HO_136002.out (x35_2 : Int) p20 q20
         replace p20 := eq_true p20
         replace q20 := eq_true q20
         have HP23 := Kd.R_putg HO_136002.out (x35_2 : Int) ((a2) % 256)
         go_wp2_with (first | ((with_reducible refine gate_store (t := 5) (p := 43) rfl ?_); refine store_event (t := 5) (p := 43) (v := ?vo_w24) (w1 := (wr.setCell ⟨go20, (x35_2 : Int).toNat, none⟩ (.int .u8 ((a2) % 256)))) ?hg ?ho ?hn ?hr ?_; (case ho => rfl); (case hg => rfl); (case hn => rfl); (case hr => first | (go_simp; done) | (go_simp; rfl)); intro w24 hw; have hg : wr.grownBy w24 (some go20) := (by rw [hw]; exact HP23.2); have hp_ : Kd.R (Kd.int .u8) 5 w24 w.heap.size (fun _ => True) (.slice (some ⟨go20, 0, none⟩) x136002_2.length co20) y136 := (by rw [hw, Ny136.out]; exact HP23.1); clear HP23; have n_ := aC hp_ (aC (blk_grown (bU BK128.out) hg (Kd.R_ne HO_136002.out BK128.out (by decide))) (aC (blk_grown (bU BK135.out) hg (Kd.R_ne HO_136002.out BK135.out (by decide))) (aE ((by rw [hw]; exact below_set (HB.out) GB20.out : Below w.heap.size w w24))))); clear HO_136002 BK128 BK135 HB; obtain ⟨HO_136002, BK128, BK135, HB⟩ := n_; clear hg hw hp_))
         go_roundg k2
         case measure => have := HJ3.out; have := HK2.out; omega
         case rel => exact ⟨(wrap64 (x35_2 + 1)), (y136), (.slice (some ⟨go20, 0, none⟩) x136002_2.length co20), rq, H', ⟨by have := HJ3.out; have := HK2.out; omega⟩, ⟨rU HO_136002.out⟩, ⟨by exact bU BK128.out⟩, ⟨by exact bU BK135.out⟩, ⟨bl⟩⟩
        ·rw [if_neg c19] at H
         exact absurd H (by simp)
       ·rw [if_neg c18] at H
        exact absurd H (by simp)
      ·simp only [Option.some.injEq, Prod.mk.injEq] at H
       obtain ⟨rfl, rfl, rfl, rfl⟩ := H
       have hnb25 := NB135_128.out
       have hnc25 := NB128_135.out
       obtain ⟨hcz26_0, hcz26_1, hcz26_2, hfz26_0, hfz26_1, hfz26_2⟩ := cz3f BK135.out
       obtain ⟨hcz27_0, hcz27_1, hcz27_2, hfz27_0, hfz27_1, hfz27_2⟩ := cz3f BK128.out
       obtain ⟨Ao28, co28, eo28⟩ := Kd.R_slice HO_136002.out
       subst eo28
       go_wp2
       refine bodyPost_ret (results_ct rfl _ _ gb128 24 #[.int .i64 t129, .int .i64 t130, .slice Ao28 x136002_2.length co28] (0, 0) _ rfl (by (with_reducible repeat (first | refine blk_drewN ?_ _ | refine blk_drew ?_ | refine blk_alloc ?_ _)); refine blk_put (cs := #[.int .i64 t129, .int .i64 t130, .slice none 0 0]) ?_ 2 _ rfl; (with_reducible repeat (first | refine blk_drewN ?_ _ | refine blk_drew ?_ | refine blk_alloc ?_ _)); refine blk_put (cs := #[.int .i64 t129, .int .i64 0, .slice none 0 0]) ?_ 1 _ rfl; (with_reducible repeat (first | refine blk_drewN ?_ _ | refine blk_drew ?_ | refine blk_alloc ?_ _)); refine blk_put (cs := #[.int .i64 0, .int .i64 0, .slice none 0 0]) ?_ 0 _ rfl; exact bU BK128.out) Try.underlying24 rfl (by kernel_rfl)) rfl ?_
       exact ⟨_, re, rU (Kd.R_mono (Kd.R_far (p := ⟨gb128, 2, none⟩) (Kd.R_far (p := ⟨gb128, 1, none⟩) (Kd.R_far (p := ⟨gb128, 0, none⟩) (Kd.R_types HO_136002.out BK128.out (by decide)) (fun _ hk => hk.2) (.int .i64 t129)) (fun _ hk => hk.2) (.int .i64 t130)) (fun _ hk => hk.2) (.slice Ao28 x136002_2.length co28)) (fun _ hk => trivial)), bl⟩
mutual
def shape_placed.l0 : Nat → List (S74) → Int → Int → Int → Int → List (S74) → Int → Int → Option (Int × Int × List Int × Int × Int)
 | 0, _, _, _, _, _, _, _, _ => none
 | k + 1, x0, x3, x4, x5, x6, x29, x30, x31 => if x31 < x30 then (if 0 ≤ x31 then (if x31 < (x29.length : Int) then (shape_placed.l0 k x0 (mn x3 ((rd_T74 x29 x31).f0)) (mn x4 ((rd_T74 x29 x31).f1)) (mx x5 ((rd_T74 x29 x31).f0)) (mx x6 ((rd_T74 x29 x31).f1)) x29 x30 (wrap64 (x31 + 1))) else (none)) else (none)) else ((bitmap_New.f k (wrap64 ((wrap64 (x5 - x3)) + 1)) (wrap64 ((wrap64 (x6 - x4)) + 1)) 0).bind fun bt144 => (shape_placed.l1 k x3 x4 x0 (x0.length : Int) 0 bt144.1 bt144.2.1 bt144.2.2.1))
def shape_placed.l1 : Nat → Int → Int → List (S74) → Int → Int → Int → Int → List Int → Option (Int × Int × List Int × Int × Int)
 | 0, _, _, _, _, _, _, _, _ => none
 | k + 1, x3, x4, x64, x65, x66, x151000, x151001, x151002 => if x66 < x65 then (if 0 ≤ x66 then (if x66 < (x64.length : Int) then (if 0 ≤ (wrap64 ((wrap64 ((wrap64 ((wrap64 (((rd_T74 x64 x66).f1) - x4)) * x151000)) + ((rd_T74 x64 x66).f0))) - x3)) then (if (wrap64 ((wrap64 ((wrap64 ((wrap64 (((rd_T74 x64 x66).f1) - x4)) * x151000)) + ((rd_T74 x64 x66).f0))) - x3)) < (x151002.length : Int) then (shape_placed.l1 k x3 x4 x64 x65 (wrap64 (x66 + 1)) x151000 x151001 (x151002.set ((wrap64 ((wrap64 ((wrap64 ((wrap64 (((rd_T74 x64 x66).f1) - x4)) * x151000)) + ((rd_T74 x64 x66).f0))) - x3)) : Int).toNat 1)) else (none)) else (none)) else (none)) else (none)) else (some (x151000, x151001, x151002, x3, x4))
end
def shape_placed.f (k : Nat) (l0 : List (S74)) : Option (Int × Int × List Int × Int × Int) := if 0 < (l0.length : Int) then (shape_placed.l0 k l0 ((rd_T74 l0 0).f0) ((rd_T74 l0 0).f1) ((rd_T74 l0 0).f0) ((rd_T74 l0 0).f1) l0 (l0.length : Int) 0) else (none)
theorem shape_placed.mono_l : ∀ k, (∀ y0 y1 y2 y3 y4 y5 y6 y7, LeO (shape_placed.l0 k y0 y1 y2 y3 y4 y5 y6 y7) (shape_placed.l0 (k + 1) y0 y1 y2 y3 y4 y5 y6 y7)) ∧ (∀ y0 y1 y2 y3 y4 y5 y6 y7, LeO (shape_placed.l1 k y0 y1 y2 y3 y4 y5 y6 y7) (shape_placed.l1 (k + 1) y0 y1 y2 y3 y4 y5 y6 y7))
 | 0 => ⟨fun _ _ _ _ _ _ _ _ r h => by simp [shape_placed.l0] at h, fun _ _ _ _ _ _ _ _ r h => by simp [shape_placed.l1] at h⟩
 | k + 1 => by
  obtain ⟨ih0, ih1⟩ := shape_placed.mono_l k
  refine ⟨?_, ?_⟩
  ·intro y0 y1 y2 y3 y4 y5 y6 y7
   unfold shape_placed.l0
   repeat' first
   | (with_reducible exact ih0 _ _ _ _ _ _ _ _)
   | (with_reducible exact ih1 _ _ _ _ _ _ _ _)
   | (with_reducible exact bitmap_New.mono _ _ _ _)
   | (with_reducible first | exact LeO.refl _ | exact LeO.none _ | refine LeO.ite ?_ ?_ | refine LeO.bind ?_ (fun _ => ?_))
  ·intro y0 y1 y2 y3 y4 y5 y6 y7
   unfold shape_placed.l1
   repeat' first
   | (with_reducible exact ih0 _ _ _ _ _ _ _ _)
   | (with_reducible exact ih1 _ _ _ _ _ _ _ _)
   | (with_reducible exact bitmap_New.mono _ _ _ _)
   | (with_reducible first | exact LeO.refl _ | exact LeO.none _ | refine LeO.ite ?_ ?_ | refine LeO.bind ?_ (fun _ => ?_))
theorem shape_placed.mono : ∀ a0 k, LeO (shape_placed.f k a0) (shape_placed.f (k + 1) a0) := by
 intro a0 k
 obtain ⟨ih0, ih1⟩ := shape_placed.mono_l k
 unfold shape_placed.f
 repeat' first
   | (with_reducible exact ih0 _ _ _ _ _ _ _ _)
   | (with_reducible exact ih1 _ _ _ _ _ _ _ _)
   | (with_reducible exact bitmap_New.mono _ _ _ _)
   | (with_reducible first | exact LeO.refl _ | exact LeO.none _ | refine LeO.ite ?_ ?_ | refine LeO.bind ?_ (fun _ => ?_))
set_option maxHeartbeats 8000000 in
set_option maxRecDepth 100000 in
theorem shape_placed.calls (k : Nat) (A0 : Option Addr) (c0 : Nat) (l0 : List (S74)) (r1 : Int) (r2 : Int) (r3 : List Int) (r4 : Int) (r5 : Int) (w : World) (hr0 : Kd.C k74 w A0 l0.length l0) (hc0 : l0.length ≤ c0) (h : shape_placed.f k l0 = some (r1, r2, r3, r4, r5)) :
  Calls Try.prog 37 #[.slice A0 l0.length c0] w fun e w' => ∃ v2_ : Value, e = .returned (.agg #[.int .i64 r1, .int .i64 r2, v2_, .int .i64 r4, .int .i64 r5]) ∧ Kd.R (Kd.int .u8) 5 w' w.heap.size (fun _ => True) v2_ r3 ∧ Below w.heap.size w w' := by
 have hu35 := Try.underlying35
 have hu74 := Try.underlying74
 have hu24 := Try.underlying24
 have HR0 := Aside0.mk hr0
 have HC0 := Aside0.mk hc0
 clear hr0 hc0
 have HB := Aside0.mk (Below.refl w.heap.size w)
 have H := h
 unfold shape_placed.f at H
 clear h
 by_cases c2 : 0 < (l0.length : Int)
 ·rw [if_pos c2] at H
  have c2b0 := decide_eq_true c2
  have c2b1 : decide (0 < l0.length) = true := decide_eq_true (by omega)
  clear c2
  have H' := Aside0.mk H
  clear H
  go_enter Try.func37, Try.ntmps37
  go_wp2_with (first | ((with_reducible refine gd 2 rfl ?_); refine bx 2 #[.int .i64 0, .int .i64 0, .slice none 0 0, .int .i64 0, .int .i64 0] 35 rfl rfl ?_; intro gb137 hg w3 hbox hb; have n_ := aC (bs hb) (aC hbox (aC (gz hg) (aE (gz hg)))); clear HB; obtain ⟨HB, BK137, GW137, GE137⟩ := n_; clear hb hbox hg; have p138 : 0 ≤ (0 : Int) := (by omega); have q138 : 0 < (l0.length : Int) := dt; obtain ⟨ad138, e138, hx138_0, hx138_1⟩ := at_T74 HR0.out 0 p138 q138; cases e138; have qi138 : (0 < l0.length) = True := eq_true (by omega); (try rw [show ((0 : Int)).toNat = 0 from rfl] at hx138_0); (try rw [show 0 * 2 = 0 from rfl] at hx138_0); (try rw [Addr.add_zero'] at hx138_0); (try rw [show ((0 : Int)).toNat = 0 from rfl] at hx138_1); (try rw [show 0 * 2 = 0 from rfl] at hx138_1); (try rw [Addr.add_zero'] at hx138_1); replace hx138_0 := hcB HB.out hx138_0; replace hx138_1 := hcB HB.out hx138_1; replace p138 := eq_true p138; replace q138 := eq_true q138; have p139 : 0 ≤ (0 : Int) := (by omega); have q139 : 0 < (l0.length : Int) := dt; obtain ⟨ad139, e139, hx139_0, hx139_1⟩ := at_T74 HR0.out 0 p139 q139; obtain rfl : ad138 = ad139 := (by injection e139); have qi139 : (0 < l0.length) = True := eq_true (by omega); (try rw [show ((0 : Int)).toNat = 0 from rfl] at hx139_0); (try rw [show 0 * 2 = 0 from rfl] at hx139_0); (try rw [Addr.add_zero'] at hx139_0); (try rw [show ((0 : Int)).toNat = 0 from rfl] at hx139_1); (try rw [show 0 * 2 = 0 from rfl] at hx139_1); (try rw [Addr.add_zero'] at hx139_1); replace hx139_0 := hcB HB.out hx139_0; replace hx139_1 := hcB HB.out hx139_1; replace p139 := eq_true p139; replace q139 := eq_true q139; have p140 : 0 ≤ (0 : Int) := (by omega); have q140 : 0 < (l0.length : Int) := dt; obtain ⟨ad140, e140, hx140_0, hx140_1⟩ := at_T74 HR0.out 0 p140 q140; obtain rfl : ad138 = ad140 := (by injection e140); have qi140 : (0 < l0.length) = True := eq_true (by omega); (try rw [show ((0 : Int)).toNat = 0 from rfl] at hx140_0); (try rw [show 0 * 2 = 0 from rfl] at hx140_0); (try rw [Addr.add_zero'] at hx140_0); (try rw [show ((0 : Int)).toNat = 0 from rfl] at hx140_1); (try rw [show 0 * 2 = 0 from rfl] at hx140_1); (try rw [Addr.add_zero'] at hx140_1); replace hx140_0 := hcB HB.out hx140_0; replace hx140_1 := hcB HB.out hx140_1; replace p140 := eq_true p140; replace q140 := eq_true q140; have p141 : 0 ≤ (0 : Int) := (by omega); have q141 : 0 < (l0.length : Int) := dt; obtain ⟨ad141, e141, hx141_0, hx141_1⟩ := at_T74 HR0.out 0 p141 q141; obtain rfl : ad138 = ad141 := (by injection e141); have qi141 : (0 < l0.length) = True := eq_true (by omega); (try rw [show ((0 : Int)).toNat = 0 from rfl] at hx141_0); (try rw [show 0 * 2 = 0 from rfl] at hx141_0); (try rw [Addr.add_zero'] at hx141_0); (try rw [show ((0 : Int)).toNat = 0 from rfl] at hx141_1); (try rw [show 0 * 2 = 0 from rfl] at hx141_1); (try rw [Addr.add_zero'] at hx141_1); replace hx141_0 := hcB HB.out hx141_0; replace hx141_1 := hcB HB.out hx141_1; replace p141 := eq_true p141; replace q141 := eq_true q141))
  repeat (go_quiet (first | ((with_reducible refine gd 2 rfl ?_); refine bx 2 #[.int .i64 0, .int .i64 0, .slice none 0 0, .int .i64 0, .int .i64 0] 35 rfl rfl ?_; intro gb137 hg w3 hbox hb; have n_ := aC (bs hb) (aC hbox (aC (gz hg) (aE (gz hg)))); clear HB; obtain ⟨HB, BK137, GW137, GE137⟩ := n_; clear hb hbox hg; have p138 : 0 ≤ (0 : Int) := (by omega); have q138 : 0 < (l0.length : Int) := dt; obtain ⟨ad138, e138, hx138_0, hx138_1⟩ := at_T74 HR0.out 0 p138 q138; cases e138; have qi138 : (0 < l0.length) = True := eq_true (by omega); (try rw [show ((0 : Int)).toNat = 0 from rfl] at hx138_0); (try rw [show 0 * 2 = 0 from rfl] at hx138_0); (try rw [Addr.add_zero'] at hx138_0); (try rw [show ((0 : Int)).toNat = 0 from rfl] at hx138_1); (try rw [show 0 * 2 = 0 from rfl] at hx138_1); (try rw [Addr.add_zero'] at hx138_1); replace hx138_0 := hcB HB.out hx138_0; replace hx138_1 := hcB HB.out hx138_1; replace p138 := eq_true p138; replace q138 := eq_true q138; have p139 : 0 ≤ (0 : Int) := (by omega); have q139 : 0 < (l0.length : Int) := dt; obtain ⟨ad139, e139, hx139_0, hx139_1⟩ := at_T74 HR0.out 0 p139 q139; obtain rfl : ad138 = ad139 := (by injection e139); have qi139 : (0 < l0.length) = True := eq_true (by omega); (try rw [show ((0 : Int)).toNat = 0 from rfl] at hx139_0); (try rw [show 0 * 2 = 0 from rfl] at hx139_0); (try rw [Addr.add_zero'] at hx139_0); (try rw [show ((0 : Int)).toNat = 0 from rfl] at hx139_1); (try rw [show 0 * 2 = 0 from rfl] at hx139_1); (try rw [Addr.add_zero'] at hx139_1); replace hx139_0 := hcB HB.out hx139_0; replace hx139_1 := hcB HB.out hx139_1; replace p139 := eq_true p139; replace q139 := eq_true q139; have p140 : 0 ≤ (0 : Int) := (by omega); have q140 : 0 < (l0.length : Int) := dt; obtain ⟨ad140, e140, hx140_0, hx140_1⟩ := at_T74 HR0.out 0 p140 q140; obtain rfl : ad138 = ad140 := (by injection e140); have qi140 : (0 < l0.length) = True := eq_true (by omega); (try rw [show ((0 : Int)).toNat = 0 from rfl] at hx140_0); (try rw [show 0 * 2 = 0 from rfl] at hx140_0); (try rw [Addr.add_zero'] at hx140_0); (try rw [show ((0 : Int)).toNat = 0 from rfl] at hx140_1); (try rw [show 0 * 2 = 0 from rfl] at hx140_1); (try rw [Addr.add_zero'] at hx140_1); replace hx140_0 := hcB HB.out hx140_0; replace hx140_1 := hcB HB.out hx140_1; replace p140 := eq_true p140; replace q140 := eq_true q140; have p141 : 0 ≤ (0 : Int) := (by omega); have q141 : 0 < (l0.length : Int) := dt; obtain ⟨ad141, e141, hx141_0, hx141_1⟩ := at_T74 HR0.out 0 p141 q141; obtain rfl : ad138 = ad141 := (by injection e141); have qi141 : (0 < l0.length) = True := eq_true (by omega); (try rw [show ((0 : Int)).toNat = 0 from rfl] at hx141_0); (try rw [show 0 * 2 = 0 from rfl] at hx141_0); (try rw [Addr.add_zero'] at hx141_0); (try rw [show ((0 : Int)).toNat = 0 from rfl] at hx141_1); (try rw [show 0 * 2 = 0 from rfl] at hx141_1); (try rw [Addr.add_zero'] at hx141_1); replace hx141_0 := hcB HB.out hx141_0; replace hx141_1 := hcB HB.out hx141_1; replace p141 := eq_true p141; replace q141 := eq_true q141)); try go_wp2_with (first | ((with_reducible refine gd 2 rfl ?_); refine bx 2 #[.int .i64 0, .int .i64 0, .slice none 0 0, .int .i64 0, .int .i64 0] 35 rfl rfl ?_; intro gb137 hg w3 hbox hb; have n_ := aC (bs hb) (aC hbox (aC (gz hg) (aE (gz hg)))); clear HB; obtain ⟨HB, BK137, GW137, GE137⟩ := n_; clear hb hbox hg; have p138 : 0 ≤ (0 : Int) := (by omega); have q138 : 0 < (l0.length : Int) := dt; obtain ⟨ad138, e138, hx138_0, hx138_1⟩ := at_T74 HR0.out 0 p138 q138; cases e138; have qi138 : (0 < l0.length) = True := eq_true (by omega); (try rw [show ((0 : Int)).toNat = 0 from rfl] at hx138_0); (try rw [show 0 * 2 = 0 from rfl] at hx138_0); (try rw [Addr.add_zero'] at hx138_0); (try rw [show ((0 : Int)).toNat = 0 from rfl] at hx138_1); (try rw [show 0 * 2 = 0 from rfl] at hx138_1); (try rw [Addr.add_zero'] at hx138_1); replace hx138_0 := hcB HB.out hx138_0; replace hx138_1 := hcB HB.out hx138_1; replace p138 := eq_true p138; replace q138 := eq_true q138; have p139 : 0 ≤ (0 : Int) := (by omega); have q139 : 0 < (l0.length : Int) := dt; obtain ⟨ad139, e139, hx139_0, hx139_1⟩ := at_T74 HR0.out 0 p139 q139; obtain rfl : ad138 = ad139 := (by injection e139); have qi139 : (0 < l0.length) = True := eq_true (by omega); (try rw [show ((0 : Int)).toNat = 0 from rfl] at hx139_0); (try rw [show 0 * 2 = 0 from rfl] at hx139_0); (try rw [Addr.add_zero'] at hx139_0); (try rw [show ((0 : Int)).toNat = 0 from rfl] at hx139_1); (try rw [show 0 * 2 = 0 from rfl] at hx139_1); (try rw [Addr.add_zero'] at hx139_1); replace hx139_0 := hcB HB.out hx139_0; replace hx139_1 := hcB HB.out hx139_1; replace p139 := eq_true p139; replace q139 := eq_true q139; have p140 : 0 ≤ (0 : Int) := (by omega); have q140 : 0 < (l0.length : Int) := dt; obtain ⟨ad140, e140, hx140_0, hx140_1⟩ := at_T74 HR0.out 0 p140 q140; obtain rfl : ad138 = ad140 := (by injection e140); have qi140 : (0 < l0.length) = True := eq_true (by omega); (try rw [show ((0 : Int)).toNat = 0 from rfl] at hx140_0); (try rw [show 0 * 2 = 0 from rfl] at hx140_0); (try rw [Addr.add_zero'] at hx140_0); (try rw [show ((0 : Int)).toNat = 0 from rfl] at hx140_1); (try rw [show 0 * 2 = 0 from rfl] at hx140_1); (try rw [Addr.add_zero'] at hx140_1); replace hx140_0 := hcB HB.out hx140_0; replace hx140_1 := hcB HB.out hx140_1; replace p140 := eq_true p140; replace q140 := eq_true q140; have p141 : 0 ≤ (0 : Int) := (by omega); have q141 : 0 < (l0.length : Int) := dt; obtain ⟨ad141, e141, hx141_0, hx141_1⟩ := at_T74 HR0.out 0 p141 q141; obtain rfl : ad138 = ad141 := (by injection e141); have qi141 : (0 < l0.length) = True := eq_true (by omega); (try rw [show ((0 : Int)).toNat = 0 from rfl] at hx141_0); (try rw [show 0 * 2 = 0 from rfl] at hx141_0); (try rw [Addr.add_zero'] at hx141_0); (try rw [show ((0 : Int)).toNat = 0 from rfl] at hx141_1); (try rw [show 0 * 2 = 0 from rfl] at hx141_1); (try rw [Addr.add_zero'] at hx141_1); replace hx141_0 := hcB HB.out hx141_0; replace hx141_1 := hcB HB.out hx141_1; replace p141 := eq_true p141; replace q141 := eq_true q141)))
  go_loopg [3, 4, 5, 6, 31] k (fun kq v3 v4 v5 v6 v31 w' => ∃ (x3_1 : Int) (x4_1 : Int) (x5_1 : Int) (x6_1 : Int) (x31_1 : Int), v3 = .int .i64 x3_1 ∧ v4 = .int .i64 x4_1 ∧ v5 = .int .i64 x5_1 ∧ v6 = .int .i64 x6_1 ∧ v31 = .int .i64 x31_1 ∧ Aside0 (shape_placed.l0 kq l0 x3_1 x4_1 x5_1 x6_1 l0 (l0.length : Int) x31_1 = some (r1, r2, r3, r4, r5)) ∧ Aside0 (kq ≤ k) ∧ Aside0 (w'.heap[gb137]? = some (.cells #[.int .i64 0, .int .i64 0, (.slice none 0 0), .int .i64 0, .int .i64 0] 35 (0, 0))) ∧ Aside0 (Below w.heap.size w w'))
  case atStart => exact ⟨((rd_T74 l0 0).f0), ((rd_T74 l0 0).f1), ((rd_T74 l0 0).f0), ((rd_T74 l0 0).f1), (0), rq, rq, rq, rq, rq, H', ⟨Nat.le_refl _⟩, ⟨by exact bU BK137.out⟩, ⟨bl⟩⟩
  case round =>
   clear H'
   obtain ⟨x3_1, x4_1, x5_1, x6_1, x31_1, rfl, rfl, rfl, rfl, rfl, HA, HK1, BK137, HB⟩ := hrel
   cases gk with
   | zero => exact absurd HA.out (by simp [shape_placed.l0])
   | succ k1 =>
    have H := HA.out
    clear HA
    simp only [shape_placed.l0] at H
    rcases iL H with H1 | H1 <;> clear H <;> obtain ⟨H, c4b0⟩ := H1
    ·by_cases c5 : 0 ≤ x31_1
     ·rw [if_pos c5] at H
      have c5b0 := decide_eq_true c5
      clear c5
      by_cases c6 : x31_1 < (l0.length : Int)
      ·rw [if_pos c6] at H
       have c6b0 := decide_eq_true c6
       clear c6
       obtain ⟨ji7, hji7⟩ : ∃ j_ : Int, (mn x3_1 ((rd_T74 l0 x31_1).f0)) = j_ := ⟨_, rfl⟩
       replace H : (shape_placed.l0 k1 l0 ji7 (mn x4_1 ((rd_T74 l0 x31_1).f1)) (mx x5_1 ((rd_T74 l0 x31_1).f0)) (mx x6_1 ((rd_T74 l0 x31_1).f1)) l0 (l0.length : Int) (wrap64 (x31_1 + 1))) = some (r1, r2, r3, r4, r5) := by first | (rw [hji7] at H; exact H) | (simp only [hji7] at H ⊢; exact H)
       have hji7_ : (if ((rd_T74 l0 x31_1).f0) < x3_1 then ((rd_T74 l0 x31_1).f0) else x3_1) = ji7 := hji7
       obtain ⟨ji8, hji8⟩ : ∃ j_ : Int, (mx x5_1 ((rd_T74 l0 x31_1).f0)) = j_ := ⟨_, rfl⟩
       replace H : (shape_placed.l0 k1 l0 ji7 (mn x4_1 ((rd_T74 l0 x31_1).f1)) ji8 (mx x6_1 ((rd_T74 l0 x31_1).f1)) l0 (l0.length : Int) (wrap64 (x31_1 + 1))) = some (r1, r2, r3, r4, r5) := by first | (rw [hji8] at H; exact H) | (simp only [hji8] at H ⊢; exact H)
       have hji8_ : (if x5_1 < ((rd_T74 l0 x31_1).f0) then ((rd_T74 l0 x31_1).f0) else x5_1) = ji8 := hji8
       obtain ⟨ji9, hji9⟩ : ∃ j_ : Int, (mn x4_1 ((rd_T74 l0 x31_1).f1)) = j_ := ⟨_, rfl⟩
       replace H : (shape_placed.l0 k1 l0 ji7 ji9 ji8 (mx x6_1 ((rd_T74 l0 x31_1).f1)) l0 (l0.length : Int) (wrap64 (x31_1 + 1))) = some (r1, r2, r3, r4, r5) := by first | (rw [hji9] at H; exact H) | (simp only [hji9] at H ⊢; exact H)
       have hji9_ : (if ((rd_T74 l0 x31_1).f1) < x4_1 then ((rd_T74 l0 x31_1).f1) else x4_1) = ji9 := hji9
       obtain ⟨ji10, hji10⟩ : ∃ j_ : Int, (mx x6_1 ((rd_T74 l0 x31_1).f1)) = j_ := ⟨_, rfl⟩
       replace H : (shape_placed.l0 k1 l0 ji7 ji9 ji8 ji10 l0 (l0.length : Int) (wrap64 (x31_1 + 1))) = some (r1, r2, r3, r4, r5) := by first | (rw [hji10] at H; exact H) | (simp only [hji10] at H ⊢; exact H)
       have hji10_ : (if x6_1 < ((rd_T74 l0 x31_1).f1) then ((rd_T74 l0 x31_1).f1) else x6_1) = ji10 := hji10
       have H' := Aside0.mk H
       clear H
       have p142 : 0 ≤ (x31_1 : Int) := dt
       have q142 : x31_1 < (l0.length : Int) := dt
       obtain ⟨ad142, e142, hx142_0, hx142_1⟩ := at_T74 HR0.out x31_1 p142 q142
       obtain rfl : ad138 = ad142 := (by injection e142)
       replace hx142_0 := hcB HB.out hx142_0
       replace hx142_1 := hcB HB.out hx142_1
       replace p142 := eq_true p142
       replace q142 := eq_true q142
       go_wp2_with (first | ((with_reducible refine gd 8 rfl ?_); refine bx 8 #[.int .i64 0, .int .i64 0] 74 rfl rfl ?_; intro gb143 hg w11 hbox hb; have n_ := aC (blk_below (bU BK137.out) hb) (aC (bs hb) (aC hbox (aC (gz hg) (aC (gz hg) (aC (gn hg (bU BK137.out)) (aE (gm hg (bU BK137.out)))))))); clear BK137 HB; obtain ⟨BK137, HB, BK143, GW143, GE143, NB137_143, NB143_137⟩ := n_; clear hb hbox hg; have hnb12 := NB143_137.out; have hnc12 := NB137_143.out; obtain ⟨hcz13_0, hcz13_1, hfz13_0, hfz13_1⟩ := cz2f BK143.out))
       repeat (go_quiet (first | ((with_reducible refine gd 8 rfl ?_); refine bx 8 #[.int .i64 0, .int .i64 0] 74 rfl rfl ?_; intro gb143 hg w11 hbox hb; have n_ := aC (blk_below (bU BK137.out) hb) (aC (bs hb) (aC hbox (aC (gz hg) (aC (gz hg) (aC (gn hg (bU BK137.out)) (aE (gm hg (bU BK137.out)))))))); clear BK137 HB; obtain ⟨BK137, HB, BK143, GW143, GE143, NB137_143, NB143_137⟩ := n_; clear hb hbox hg; have hnb12 := NB143_137.out; have hnc12 := NB137_143.out; obtain ⟨hcz13_0, hcz13_1, hfz13_0, hfz13_1⟩ := cz2f BK143.out)); try go_wp2_with (first | ((with_reducible refine gd 8 rfl ?_); refine bx 8 #[.int .i64 0, .int .i64 0] 74 rfl rfl ?_; intro gb143 hg w11 hbox hb; have n_ := aC (blk_below (bU BK137.out) hb) (aC (bs hb) (aC hbox (aC (gz hg) (aC (gz hg) (aC (gn hg (bU BK137.out)) (aE (gm hg (bU BK137.out)))))))); clear BK137 HB; obtain ⟨BK137, HB, BK143, GW143, GE143, NB137_143, NB143_137⟩ := n_; clear hb hbox hg; have hnb12 := NB143_137.out; have hnc12 := NB137_143.out; obtain ⟨hcz13_0, hcz13_1, hfz13_0, hfz13_1⟩ := cz2f BK143.out)))
       go_roundg k1
       case measure => have := HK1.out; omega
       case rel => exact ⟨(ji7), (ji9), (ji8), (ji10), (wrap64 (x31_1 + 1)), (by first | rfl | (simp; done) | (simp only [← hji7] <;> (first | rfl | simp)) | (simp [*]; done)), (by first | rfl | (simp; done) | (simp only [← hji9] <;> (first | rfl | simp)) | (simp [*]; done)), (by first | rfl | (simp; done) | (simp only [← hji8] <;> (first | rfl | simp)) | (simp [*]; done)), (by first | rfl | (simp; done) | (simp only [← hji10] <;> (first | rfl | simp)) | (simp [*]; done)), rq, H', ⟨by have := HK1.out; omega⟩, ⟨by refine bF ?_ ?_; exact NB137_143.out; refine bF ?_ ?_; exact NB137_143.out; exact bU BK137.out⟩, ⟨bl⟩⟩
      ·rw [if_neg c6] at H
       exact absurd H (by simp)
     ·rw [if_neg c5] at H
      exact absurd H (by simp)
    ·obtain ⟨⟨t144, t145, t146, t149⟩, A14, H⟩ := oB H
     try dsimp only at H
     have H' := Aside0.mk H
     clear H
     go_wp2_with (first | (go_at_call 28; (with_reducible refine (bitmap_New.calls k1 (wrap64 ((wrap64 (x5_1 - x3_1)) + 1)) (wrap64 ((wrap64 (x6_1 - x4_1)) + 1)) 0 t144 t145 t146 t149 _ A14.out).mono ?_); rintro e w15 ⟨v147, rfl, ho0, hb⟩; have n_ := aC (Kd.R_lower ho0 bz) (aC (blk_below (bU BK137.out) hb) (aE (bs hb))); clear BK137 HB; obtain ⟨HO148, BK137, HB⟩ := n_) | ((with_reducible refine gd 9 rfl ?_); refine bx 9 #[.int .i64 0, .int .i64 0, .slice none 0 0] 24 rfl rfl ?_; intro gb150 hg w16 hbox hb; have n_ := aC (Kd.R_below (rU HO148.out) hb) (aC (blk_below (bU BK137.out) hb) (aC (bs hb) (aC hbox (aC (gz hg) (aC (gz hg) (aC (gn hg (bU BK137.out)) (aE (gm hg (bU BK137.out))))))))); clear HO148 BK137 HB; obtain ⟨HO148, BK137, HB, BK150, GW150, GE150, NB137_150, NB150_137⟩ := n_; clear hb hbox hg; have hnb17 := NB150_137.out; have hnc17 := NB137_150.out; obtain ⟨hcz18_0, hcz18_1, hcz18_2, hfz18_0, hfz18_1, hfz18_2⟩ := cz3f BK150.out; obtain ⟨Ao19, co19, eo19⟩ := Kd.R_slice HO148.out; subst eo19))
     go_loopg [66] k1 (fun kq v66 w' => ∃ (x66_2 : Int) (x151002_2 : List Int) (u151002 : Value), v66 = .int .i64 x66_2 ∧ Aside0 (shape_placed.l1 kq x3_1 x4_1 l0 (l0.length : Int) x66_2 t144 t145 x151002_2 = some (r1, r2, r3, r4, r5)) ∧ Aside0 (kq ≤ k1) ∧ Aside0 (Kd.R (Kd.int .u8) 5 w' w.heap.size (fun _ => True) u151002 x151002_2) ∧ Aside0 (w'.heap[gb137]? = some (.cells #[.int .i64 0, .int .i64 0, (.slice none 0 0), .int .i64 0, .int .i64 0] 35 (0, 0))) ∧ Aside0 (w'.heap[gb150]? = some (.cells #[.int .i64 t144, .int .i64 t145, u151002] 24 (0, 0))) ∧ Aside0 (Below w.heap.size w w'))
     case atStart => exact ⟨(0), (t146), (.slice Ao19 t146.length co19), rq, H', ⟨Nat.le_refl _⟩, ⟨rU (Kd.R_mono (Kd.R_far (p := ⟨gb150, 2, none⟩) (Kd.R_far (p := ⟨gb150, 1, none⟩) (Kd.R_far (p := ⟨gb150, 0, none⟩) (Kd.R_types HO148.out BK150.out (by decide)) (fun _ hk => hk.2) (.int .i64 t144)) (fun _ hk => hk.2) (.int .i64 t145)) (fun _ hk => hk.2) (.slice Ao19 t146.length co19)) (fun _ hk => trivial))⟩, ⟨by refine bF ?_ ?_; exact NB137_150.out; refine bF ?_ ?_; exact NB137_150.out; refine bF ?_ ?_; exact NB137_150.out; exact bU BK137.out⟩, ⟨by (with_reducible repeat (first | refine blk_drewN ?_ _ | refine blk_drew ?_ | refine blk_alloc ?_ _)); refine blk_put (cs := #[.int .i64 t144, .int .i64 t145, .slice none 0 0]) ?_ 2 _ rfl; (with_reducible repeat (first | refine blk_drewN ?_ _ | refine blk_drew ?_ | refine blk_alloc ?_ _)); refine blk_put (cs := #[.int .i64 t144, .int .i64 0, .slice none 0 0]) ?_ 1 _ rfl; (with_reducible repeat (first | refine blk_drewN ?_ _ | refine blk_drew ?_ | refine blk_alloc ?_ _)); refine blk_put (cs := #[.int .i64 0, .int .i64 0, .slice none 0 0]) ?_ 0 _ rfl; exact bU BK150.out⟩, ⟨bl⟩⟩
     case round =>
      clear H'
      obtain ⟨x66_2, x151002_2, u151002, rfl, HA, HK2, HO_151002, BK137, BK150, HB⟩ := hrel
      cases gk with
      | zero => exact absurd HA.out (by simp [shape_placed.l1])
      | succ k2 =>
       have H := HA.out
       clear HA
       simp only [shape_placed.l1] at H
       rcases iL H with H1 | H1 <;> clear H <;> obtain ⟨H, c20b0⟩ := H1
       ·by_cases c21 : 0 ≤ x66_2
        ·rw [if_pos c21] at H
         have c21b0 := decide_eq_true c21
         clear c21
         by_cases c22 : x66_2 < (l0.length : Int)
         ·rw [if_pos c22] at H
          have c22b0 := decide_eq_true c22
          clear c22
          obtain ⟨ji23, hji23⟩ : ∃ j_ : Int, (wrap64 ((wrap64 ((wrap64 ((wrap64 (((rd_T74 l0 x66_2).f1) - x4_1)) * t144)) + ((rd_T74 l0 x66_2).f0))) - x3_1)) = j_ := ⟨_, rfl⟩
          replace H : (if 0 ≤ (ji23) then (if (ji23) < (x151002_2.length : Int) then (shape_placed.l1 k2 x3_1 x4_1 l0 (l0.length : Int) (wrap64 (x66_2 + 1)) t144 t145 (x151002_2.set ((ji23) : Int).toNat 1)) else (none)) else (none)) = some (r1, r2, r3, r4, r5) := by first | (rw [hji23] at H; exact H) | (simp only [hji23] at H ⊢; exact H)
          have hji23w : (IntKind.i64.wrap ((wrap64 ((wrap64 ((wrap64 (((rd_T74 l0 x66_2).f1) - x4_1)) * t144)) + ((rd_T74 l0 x66_2).f0))) - x3_1)) = ji23 := (i64_w _).trans hji23
          by_cases c24 : 0 ≤ (ji23)
          ·rw [if_pos c24] at H
           have c24b0 := decide_eq_true c24
           clear c24
           by_cases c25 : (ji23) < (x151002_2.length : Int)
           ·rw [if_pos c25] at H
            have c25b0 := decide_eq_true c25
            clear c25
            obtain ⟨y153, hy_⟩ : ∃ y_ : List Int, y_ = (x151002_2.set ((ji23) : Int).toNat 1) := ⟨_, rfl⟩
            replace H : (shape_placed.l1 k2 x3_1 x4_1 l0 (l0.length : Int) (wrap64 (x66_2 + 1)) t144 t145 y153) = some (r1, r2, r3, r4, r5) := rh
            have Ny153 := aE hy_
            clear hy_
            have H' := Aside0.mk H
            clear H
            have p151 : 0 ≤ (x66_2 : Int) := dt
            have q151 : x66_2 < (l0.length : Int) := dt
            obtain ⟨ad151, e151, hx151_0, hx151_1⟩ := at_T74 HR0.out x66_2 p151 q151
            obtain rfl : ad138 = ad151 := (by injection e151)
            replace hx151_0 := hcB HB.out hx151_0
            replace hx151_1 := hcB HB.out hx151_1
            replace p151 := eq_true p151
            replace q151 := eq_true q151
            go_wp2_with (first | ((with_reducible refine gd 12 rfl ?_); refine bx 12 #[.int .i64 0, .int .i64 0] 74 rfl rfl ?_; intro gb152 hg w27 hbox hb; have n_ := aC (Kd.R_below (rU HO_151002.out) hb) (aC (blk_below (bU BK137.out) hb) (aC (blk_below (bU BK150.out) hb) (aC (bs hb) (aC hbox (aC (gz hg) (aC (gz hg) (aC (gn hg (bU BK137.out)) (aC (gm hg (bU BK137.out)) (aC (gn hg (bU BK150.out)) (aE (gm hg (bU BK150.out)))))))))))); clear HO_151002 BK137 BK150 HB; obtain ⟨HO_151002, BK137, BK150, HB, BK152, GW152, GE152, NB137_152, NB152_137, NB150_152, NB152_150⟩ := n_; clear hb hbox hg; have hnb28 := NB152_137.out; have hnc28 := NB137_152.out; have hnb29 := NB152_150.out; have hnc29 := NB150_152.out; obtain ⟨hcz30_0, hcz30_1, hfz30_0, hfz30_1⟩ := cz2f BK152.out) | ((with_reducible refine gate_store (t := 74) (p := 12) rfl ?_); (try (rw [drewN_self w27]; generalize hq_ : World.drewN w27 _ = w27; have n0_ := Aside0.mk (Kd.R_at hq_ HO_151002.out); have n1_ := Aside0.mk (blk_at hq_ BK137.out); have n2_ := Aside0.mk (blk_at hq_ BK150.out); have n3_ := Aside0.mk (blk_at hq_ BK152.out); have n4_ := Aside0.mk (below_at hq_ HB.out); clear hq_ HO_151002 BK137 BK150 BK152 HB; have HO_151002 := n0_; have BK137 := n1_; have BK150 := n2_; have BK152 := n3_; have HB := n4_; clear n0_ n1_ n2_ n3_ n4_)); refine store_event (t := 74) (p := 12) (v := ?vo_w31) (w1 := ((w27.setCell ⟨gb152, 0, none⟩ (.int .i64 ((rd_T74 l0 x66_2).f0))).setCell ⟨gb152, 1, none⟩ (.int .i64 ((rd_T74 l0 x66_2).f1)))) ?hg ?ho ?hn ?hr ?_; (case ho => rfl); (case hg => rfl); (case hn => rfl); (case hr => first | (go_simp; done) | (go_simp; rfl)); intro w31 hw; have n_ := aC (show Kd.R (Kd.int .u8) 5 w31 w.heap.size (fun _ => True) u151002 x151002_2 from (by rw [hw]; exact (rU (Kd.R_mono (Kd.R_far (p := ⟨gb152, 1, none⟩) (Kd.R_far (p := ⟨gb152, 0, none⟩) (Kd.R_types HO_151002.out BK152.out (by decide)) (fun _ hk => hk.2) (.int .i64 ((rd_T74 l0 x66_2).f0))) (fun _ hk => hk.2) (.int .i64 ((rd_T74 l0 x66_2).f1))) (fun _ hk => trivial))))) (aC (show w31.heap[gb137]? = some (.cells #[.int .i64 0, .int .i64 0, .slice none 0 0, .int .i64 0, .int .i64 0] 35 (0, 0)) from (by rw [hw]; exact (by refine bF ?_ ?_; exact NB137_152.out; refine bF ?_ ?_; exact NB137_152.out; exact bU BK137.out))) (aC (show w31.heap[gb150]? = some (.cells #[.int .i64 t144, .int .i64 t145, u151002] 24 (0, 0)) from (by rw [hw]; exact (by refine bF ?_ ?_; exact NB150_152.out; refine bF ?_ ?_; exact NB150_152.out; exact bU BK150.out))) (aC (show w31.heap[gb152]? = some (.cells #[.int .i64 ((rd_T74 l0 x66_2).f0), .int .i64 ((rd_T74 l0 x66_2).f1)] 74 (0, 0)) from (by rw [hw]; exact (by (with_reducible repeat (first | refine blk_drewN ?_ _ | refine blk_drew ?_ | refine blk_alloc ?_ _)); refine blk_put (cs := #[.int .i64 ((rd_T74 l0 x66_2).f0), .int .i64 0]) ?_ 1 _ rfl; (with_reducible repeat (first | refine blk_drewN ?_ _ | refine blk_drew ?_ | refine blk_alloc ?_ _)); refine blk_put (cs := #[.int .i64 0, .int .i64 0]) ?_ 0 _ rfl; exact bU BK152.out))) (aE (show Below w.heap.size w w31 from (by rw [hw]; exact bl)))))); clear hw HO_151002 BK137 BK150 BK152 HB; obtain ⟨HO_151002, BK137, BK150, BK152, HB⟩ := n_; have hnb32 := NB150_137.out; have hnc32 := NB137_150.out; obtain ⟨hcz33_0, hcz33_1, hcz33_2, hfz33_0, hfz33_1, hfz33_2⟩ := cz3f BK150.out; obtain ⟨hcz34_0, hcz34_1, hfz34_0, hfz34_1⟩ := cz2f BK152.out; have p26 : 0 ≤ ((ji23) : Int) := dt; have q26 : ((ji23) : Int) < ((x151002_2.length : Int) : Int) := dt; obtain ⟨go26, co26, eo26, gb26, gl26, cl26, HG26⟩ := Kd.R_form HO_151002.out (by omega); (first | cases eo26 | (injection eo26 with ea_ en_ ec_; (first | subst ea_ | (injection ea_ with ea_; subst ea_)); subst ec_; clear en_)); have GB26 := Aside0.mk gb26; have GG26 := Aside0.mk HG26; clear gb26 gl26 HG26; obtain ⟨hx26_0, hf26_0⟩ := Kd.R_celln 0 HO_151002.out ((ji23) : Int) p26 q26; replace p26 := eq_true p26; replace q26 := eq_true q26; obtain ⟨hy35_, hz35_⟩ := Kd.R_celln 0 HO_151002.out ((ji23) : Int) (dt) (dt); have HP35 := Kd.R_putg HO_151002.out ((ji23) : Int) 1) | ((with_reducible refine gate_store (t := 5) (p := 84) rfl ?_); (try (rw [drewN_self w31]; generalize hq_ : World.drewN w31 _ = w31; have n0_ := Aside0.mk (Kd.R_at hq_ HO_151002.out); have n1_ := Aside0.mk (blk_at hq_ BK137.out); have n2_ := Aside0.mk (blk_at hq_ BK150.out); have n3_ := Aside0.mk (blk_at hq_ BK152.out); have n4_ := Aside0.mk (below_at hq_ HB.out); clear hq_ HO_151002 BK137 BK150 BK152 HB; have HO_151002 := n0_; have BK137 := n1_; have BK150 := n2_; have BK152 := n3_; have HB := n4_; clear n0_ n1_ n2_ n3_ n4_; (try (obtain ⟨hy35_, hz35_⟩ := Kd.R_celln 0 HO_151002.out ((ji23) : Int) (dt) (dt))); (try (have HP35 := Kd.R_putg HO_151002.out ((ji23) : Int) 1)))); refine store_event (t := 5) (p := 84) (v := ?vo_w36) (w1 := (w31.setCell ⟨go26, ((ji23) : Int).toNat, none⟩ (.int .u8 1))) ?hg ?ho ?hn ?hr ?_; (case ho => rfl); (case hg => rfl); (case hn => rfl); (case hr => first | (go_simp; done) | (go_simp; rfl)); intro w36 hw; have hg : w31.grownBy w36 (some go26) := (by rw [hw]; exact HP35.2); have hp_ : Kd.R (Kd.int .u8) 5 w36 w.heap.size (fun _ => True) (.slice (some ⟨go26, 0, none⟩) x151002_2.length co26) y153 := (by rw [hw, Ny153.out]; exact HP35.1); clear HP35; have n_ := aC hp_ (aC (blk_grown (bU BK137.out) hg (Kd.R_ne HO_151002.out BK137.out (by decide))) (aC (blk_grown (bU BK150.out) hg (Kd.R_ne HO_151002.out BK150.out (by decide))) (aC (blk_grown (g := gb152) (o := .cells #[.int .i64 ((rd_T74 l0 x66_2).f0), .int .i64 ((rd_T74 l0 x66_2).f1)] 74 (0, 0)) (bU BK152.out) hg (Kd.R_ne HO_151002.out BK152.out (by decide))) (aE ((by rw [hw]; exact below_set (HB.out) GB26.out : Below w.heap.size w w36)))))); clear HO_151002 BK137 BK150 BK152 HB; obtain ⟨HO_151002, BK137, BK150, BK152, HB⟩ := n_; clear hg hw hp_))
            go_roundg k2
            case measure => have := HK1.out; have := HK2.out; omega
            case rel => exact ⟨(wrap64 (x66_2 + 1)), (y153), (.slice (some ⟨go26, 0, none⟩) x151002_2.length co26), rq, H', ⟨by have := HK1.out; have := HK2.out; omega⟩, ⟨rU HO_151002.out⟩, ⟨by exact bU BK137.out⟩, ⟨by exact bU BK150.out⟩, ⟨bl⟩⟩
           ·rw [if_neg c25] at H
            exact absurd H (by simp)
          ·rw [if_neg c24] at H
           exact absurd H (by simp)
         ·rw [if_neg c22] at H
          exact absurd H (by simp)
        ·rw [if_neg c21] at H
         exact absurd H (by simp)
       ·simp only [Option.some.injEq, Prod.mk.injEq] at H
        obtain ⟨rfl, rfl, rfl, rfl, rfl⟩ := H
        have hnb37 := NB150_137.out
        have hnc37 := NB137_150.out
        obtain ⟨hcz38_0, hcz38_1, hcz38_2, hfz38_0, hfz38_1, hfz38_2⟩ := cz3f BK150.out
        obtain ⟨Ao39, co39, eo39⟩ := Kd.R_slice HO_151002.out
        subst eo39
        obtain ⟨hcz40_0, hcz40_1, hcz40_2, hcz40_3, hcz40_4, hfz40_0, hfz40_1, hfz40_2, hfz40_3, hfz40_4⟩ := cz5f BK137.out
        go_wp2
        refine bodyPost_ret (results_cell_row rfl _ _ gb137 35 #[.int .i64 t144, .int .i64 t145, .slice Ao39 x151002_2.length co39, .int .i64 x3_1, .int .i64 x4_1] (0, 0) _ rfl (by (with_reducible repeat (first | refine blk_drewN ?_ _ | refine blk_drew ?_ | refine blk_alloc ?_ _)); refine blk_put (cs := #[.int .i64 t144, .int .i64 t145, .slice Ao39 x151002_2.length co39, .int .i64 x3_1, .int .i64 0]) ?_ 4 _ rfl; (with_reducible repeat (first | refine blk_drewN ?_ _ | refine blk_drew ?_ | refine blk_alloc ?_ _)); refine blk_put (cs := #[.int .i64 t144, .int .i64 t145, .slice Ao39 x151002_2.length co39, .int .i64 0, .int .i64 0]) ?_ 3 _ rfl; (with_reducible repeat (first | refine blk_drewN ?_ _ | refine blk_drew ?_ | refine blk_alloc ?_ _)); refine blk_put (cs := #[.int .i64 t144, .int .i64 t145, .slice none 0 0, .int .i64 0, .int .i64 0]) ?_ 2 _ rfl; (with_reducible repeat (first | refine blk_drewN ?_ _ | refine blk_drew ?_ | refine blk_alloc ?_ _)); refine blk_put (cs := #[.int .i64 t144, .int .i64 0, .slice none 0 0, .int .i64 0, .int .i64 0]) ?_ 1 _ rfl; (with_reducible repeat (first | refine blk_drewN ?_ _ | refine blk_drew ?_ | refine blk_alloc ?_ _)); refine blk_put (cs := #[.int .i64 0, .int .i64 0, .slice none 0 0, .int .i64 0, .int .i64 0]) ?_ 0 _ rfl; exact bU BK137.out) Try.underlying35 rfl (by kernel_rfl)) rfl ?_
        exact ⟨_, re, rU (Kd.R_mono (Kd.R_far (p := ⟨gb137, 4, none⟩) (Kd.R_far (p := ⟨gb137, 3, none⟩) (Kd.R_far (p := ⟨gb137, 2, none⟩) (Kd.R_far (p := ⟨gb137, 1, none⟩) (Kd.R_far (p := ⟨gb137, 0, none⟩) (Kd.R_types HO_151002.out BK137.out (by decide)) (fun _ hk => hk.2) (.int .i64 t144)) (fun _ hk => hk.2) (.int .i64 t145)) (fun _ hk => hk.2) (.slice Ao39 x151002_2.length co39)) (fun _ hk => hk.2) (.int .i64 x3_1)) (fun _ hk => hk.2) (.int .i64 x4_1)) (fun _ hk => trivial)), bl⟩
 ·rw [if_neg c2] at H
  exact absurd H (by simp)
end Go.Proofs.Ytnnbfkmmjclhaaa.PScanSpecks
