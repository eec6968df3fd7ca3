-- printed (wip/tools/myprint.py)
import Derived.Test.YtnnbfkmmjclhaaaPScanSpecksx0
import Derived.Test.YtnnbfkmmjclhaaaPScanSpecksx8
import Derived.Test.YtnnbfkmmjclhaaaPScanSpecksx10
import Derived.Test.YtnnbfkmmjclhaaaPScanSpecksx12
namespace Go.Proofs.Ytnnbfkmmjclhaaa.PScanSpecks
open Go.RowKit Go.Proofs.YtnnbfkmmjclhaaaW.PrintWords Go.Proofs.YtnnbfkmmjclhaaaW.PrintLast Go.Proofs.YtnnbfkmmjclhaaaW.PrintMore
attribute [local go_sem] max2_int min2_int max_two min_two max_three min_three max_four min_four
set_option linter.unusedVariables false
set_option linter.unusedSimpArgs false
mutual
def incunableref15_Components.l0 : Nat → List Int → Int → List (S35) → Int → Int → Int → List Int → Option ((List (S35)) × Int)
 | 0, _, _, _, _, _, _, _ => none
 | k + 1, x4, x5, x6, x7, x385000, x385001, x385002 => if x7 ≤ x5 then ((incunableref05_Copy.f x385000 x385001 x385002).bind fun bt390 => (incunableref15_Components.l1 k x4 x5 x6 x7 0 x385000 x385001 x385002 bt390.1 bt390.2.1 bt390.2.2)) else (some (x6, 0))
def incunableref15_Components.l1 : Nat → List Int → Int → List (S35) → Int → Int → Int → Int → List Int → Int → Int → List Int → Option ((List (S35)) × Int)
 | 0, _, _, _, _, _, _, _, _, _, _, _ => none
 | k + 1, x4, x5, x6, x7, x9, x385000, x385001, x385002, x396000, x396001, x396002 => if x9 < (x4.length : Int) then (if 0 ≤ x9 then (if (rd x4 x9) = x7 then (incunableref15_Components.l1 k x4 x5 x6 x7 (wrap64 (x9 + 1)) x385000 x385001 x385002 x396000 x396001 x396002) else (if x9 < (x396002.length : Int) then (incunableref15_Components.l1 k x4 x5 x6 x7 (wrap64 (x9 + 1)) x385000 x385001 x385002 x396000 x396001 (x396002.set (x9 : Int).toNat 0)) else (none))) else (none)) else ((incunableref05_Trim.f k x396000 x396001 x396002).bind fun bt398 => (if x6.length < 2513169434916 then (incunableref15_Components.l0 k x4 x5 (x6 ++ [(⟨(⟨bt398.1, bt398.2.1, bt398.2.2.1⟩ : S24), bt398.2.2.2.1, bt398.2.2.2.2.1⟩ : S35)]) (wrap64 (x7 + 1)) x385000 x385001 x385002) else (none)))
end
def incunableref15_Components.f (k : Nat) (a0_0 : Int) (a0_1 : Int) (l0_2 : List Int) : Option ((List (S35)) × Int) := (incunableref05_Valid.f k a0_0 a0_1 l0_2).bind fun t385 => (if t385 = true then ((incunableref15_Marks.f k a0_0 a0_1 l0_2).bind fun bt386 => (incunableref15_Components.l0 k bt386.1 bt386.2 ([] : List (S35)) 1 a0_0 a0_1 l0_2)) else (some (([] : List (S35)), 30)))
theorem incunableref15_Components.mono_l : ∀ k, (∀ y0 y1 y2 y3 y4 y5 y6, LeO (incunableref15_Components.l0 k y0 y1 y2 y3 y4 y5 y6) (incunableref15_Components.l0 (k + 1) y0 y1 y2 y3 y4 y5 y6)) ∧ (∀ y0 y1 y2 y3 y4 y5 y6 y7 y8 y9 y10, LeO (incunableref15_Components.l1 k y0 y1 y2 y3 y4 y5 y6 y7 y8 y9 y10) (incunableref15_Components.l1 (k + 1) y0 y1 y2 y3 y4 y5 y6 y7 y8 y9 y10))
 | 0 => ⟨fun _ _ _ _ _ _ _ r h => by simp [incunableref15_Components.l0] at h, fun _ _ _ _ _ _ _ _ _ _ _ r h => by simp [incunableref15_Components.l1] at h⟩
 | k + 1 => by
  obtain ⟨ih0, ih1⟩ := incunableref15_Components.mono_l k
  refine ⟨?_, ?_⟩
  ·intro y0 y1 y2 y3 y4 y5 y6
   unfold incunableref15_Components.l0
   repeat' first
   | (with_reducible exact ih0 _ _ _ _ _ _ _)
   | (with_reducible exact ih1 _ _ _ _ _ _ _ _ _ _ _)
   | (with_reducible exact incunableref05_Trim.mono _ _ _ _)
   | (with_reducible exact incunableref05_Valid.mono _ _ _ _)
   | (with_reducible exact incunableref15_Marks.mono _ _ _ _)
   | (with_reducible first | exact LeO.refl _ | exact LeO.none _ | refine LeO.ite ?_ ?_ | refine LeO.bind ?_ (fun _ => ?_))
  ·intro y0 y1 y2 y3 y4 y5 y6 y7 y8 y9 y10
   unfold incunableref15_Components.l1
   repeat' first
   | (with_reducible exact ih0 _ _ _ _ _ _ _)
   | (with_reducible exact ih1 _ _ _ _ _ _ _ _ _ _ _)
   | (with_reducible exact incunableref05_Trim.mono _ _ _ _)
   | (with_reducible exact incunableref05_Valid.mono _ _ _ _)
   | (with_reducible exact incunableref15_Marks.mono _ _ _ _)
   | (with_reducible first | exact LeO.refl _ | exact LeO.none _ | refine LeO.ite ?_ ?_ | refine LeO.bind ?_ (fun _ => ?_))
theorem incunableref15_Components.mono : ∀ a0 a1 a2 k, LeO (incunableref15_Components.f k a0 a1 a2) (incunableref15_Components.f (k + 1) a0 a1 a2) := by
 intro a0 a1 a2 k
 obtain ⟨ih0, ih1⟩ := incunableref15_Components.mono_l k
 unfold incunableref15_Components.f
 repeat' first
   | (with_reducible exact ih0 _ _ _ _ _ _ _)
   | (with_reducible exact ih1 _ _ _ _ _ _ _ _ _ _ _)
   | (with_reducible exact incunableref05_Trim.mono _ _ _ _)
   | (with_reducible exact incunableref05_Valid.mono _ _ _ _)
   | (with_reducible exact incunableref15_Marks.mono _ _ _ _)
   | (with_reducible first | exact LeO.refl _ | exact LeO.none _ | refine LeO.ite ?_ ?_ | refine LeO.bind ?_ (fun _ => ?_))
set_option maxHeartbeats 8000000 in
set_option maxRecDepth 100000 in
theorem incunableref15_Components.calls (k : Nat) (a0_0 : Int) (a0_1 : Int) (A0_2 : Option Addr) (c0_2 : Nat) (l0_2 : List Int) (r1 : List (S35)) (r2 : Int) (w : World) (hr0_2 : Kd.C (Kd.int .u8) w A0_2 l0_2.length l0_2) (hc0_2 : l0_2.length ≤ c0_2) (h : incunableref15_Components.f k a0_0 a0_1 l0_2 = some (r1, r2)) :
  Calls Try.prog 8 #[.agg #[.int .i64 a0_0, .int .i64 a0_1, .slice A0_2 l0_2.length c0_2]] w fun e w' => ∃ v0_ : Value, e = .returned (.tuple #[v0_, .int .i64 r2]) ∧ Kd.S k35 35 w' w.heap.size (fun _ => True) v0_ r1 ∧ Below w.heap.size w w' := by
 have hu24 := Try.underlying24
 have hu35 := Try.underlying35
 have HR0_2 := Aside0.mk hr0_2
 have HC0_2 := Aside0.mk hc0_2
 clear hr0_2 hc0_2
 have HB := Aside0.mk (Below.refl w.heap.size w)
 have H := h
 unfold incunableref15_Components.f at H
 clear h
 obtain ⟨t385, A2, H⟩ := oB H
 try dsimp only at H
 by_cases c3 : t385 = true
 ·subst c3
  rw [if_pos rfl] at H
  obtain ⟨⟨t386, t389⟩, A4, H⟩ := oB H
  try dsimp only at H
  have H' := Aside0.mk H
  clear H
  go_enter Try.func8, Try.ntmps8
  go_wp2_with (first | ((with_reducible refine gd 1 rfl ?_); refine bx 1 #[.int .i64 a0_0, .int .i64 a0_1, .slice A0_2 l0_2.length c0_2] 24 rfl rfl ?_; intro gb384 hg w5 hbox hb; have n_ := aC (bs hb) (aC hbox (aC (gz hg) (aE (gz hg)))); clear HB; obtain ⟨HB, BK384, GW384, GE384⟩ := n_; clear hb hbox hg; obtain ⟨hcz6_0, hcz6_1, hcz6_2, hfz6_0, hfz6_1, hfz6_2⟩ := cz3f BK384.out) | ((with_reducible refine gf 18 rfl ?_); refine gL (some 15) rfl rfl Try.func18 rfl #[.agg #[.int .i64 a0_0, .int .i64 a0_1, .slice A0_2 l0_2.length c0_2]] rfl ?_; (with_reducible refine (incunableref05_Valid.calls k a0_0 a0_1 _ _ l0_2 true _ ?side1 ?side2 A2.out).mono ?_); (case side1 => exact cU (Kd.C_below HR0_2.out HB.out)); (case side2 => exact HC0_2.out); rintro e w7 ⟨rfl, hb⟩; refine ⟨_, rfl, ?_⟩; have n_ := aC (blk_below (bU BK384.out) hb) (aE (bs hb)); clear BK384 HB; obtain ⟨BK384, HB⟩ := n_; obtain ⟨hcz8_0, hcz8_1, hcz8_2, hfz8_0, hfz8_1, hfz8_2⟩ := cz3f BK384.out) | ((with_reducible refine gf 19 rfl ?_); refine gL (some 19) rfl rfl Try.func19 rfl #[.agg #[.int .i64 a0_0, .int .i64 a0_1, .slice A0_2 l0_2.length c0_2]] rfl ?_; (with_reducible refine (incunableref15_Marks.calls k a0_0 a0_1 _ _ l0_2 t386 t389 _ ?side1 ?side2 A4.out).mono ?_); (case side1 => exact cU (Kd.C_below HR0_2.out HB.out)); (case side2 => exact HC0_2.out); rintro e w9 ⟨v387, rfl, ho0, hb⟩; refine ⟨_, rfl, ?_⟩; have n_ := aC (Kd.R_lower ho0 bz) (aC (blk_below (bU BK384.out) hb) (aE (bs hb))); clear BK384 HB; obtain ⟨HO388, BK384, HB⟩ := n_))
  go_loopg [6, 7] k (fun kq v6 v7 w' => ∃ (x6_1 : List (S35)) (x7_1 : Int), v7 = .int .i64 x7_1 ∧ Aside0 (incunableref15_Components.l0 kq t386 t389 x6_1 x7_1 a0_0 a0_1 l0_2 = some (r1, r2)) ∧ Aside0 (kq ≤ k) ∧ Aside0 (Kd.R (Kd.int .i64) 3 w' w.heap.size (fun _ => True) v387 t386) ∧ Aside0 (Kd.S k35 35 w' w.heap.size (fun _ => True) v6 x6_1) ∧ Aside0 (w'.heap[gb384]? = some (.cells #[.int .i64 a0_0, .int .i64 a0_1, (.slice A0_2 l0_2.length c0_2)] 24 (0, 0))) ∧ Aside0 (Below w.heap.size w w'))
  case atStart => exact ⟨(([] : List (S35))), (1), rq, H', ⟨Nat.le_refl _⟩, ⟨rU HO388.out⟩, ⟨by first | exact Kd.S_nil _ _ _ _ _ | exact Kd.N_nil _ _ _ _ _ | exact Kd.V_nil _ _ _ _ _ | exact Kd.Q_nil _ _ _ _ _ | exact Kd.R_nil _ _ _ _ _⟩, ⟨by exact bU BK384.out⟩, ⟨bl⟩⟩
  case round =>
   clear H'
   obtain ⟨x6_1, x7_1, rfl, HA, HK1, HO_4, HO_6, BK384, HB⟩ := hrel
   cases gk with
   | zero => exact absurd HA.out (by simp [incunableref15_Components.l0])
   | succ k1 =>
    have H := HA.out
    clear HA
    simp only [incunableref15_Components.l0] at H
    rcases iL H with H1 | H1 <;> clear H <;> obtain ⟨H, c10b0⟩ := H1
    ·obtain ⟨⟨t390, t391, t392⟩, A11, H⟩ := oB H
     try dsimp only at H
     have H' := Aside0.mk H
     clear H
     obtain ⟨hcz12_0, hcz12_1, hcz12_2, hfz12_0, hfz12_1, hfz12_2⟩ := cz3f BK384.out
     go_wp2_with (first | ((with_reducible refine gf 20 rfl ?_); refine gL (some 28) rfl rfl Try.func20 rfl #[.agg #[.int .i64 a0_0, .int .i64 a0_1, .slice A0_2 l0_2.length c0_2]] rfl ?_; (with_reducible refine (incunableref05_Copy.calls a0_0 a0_1 _ _ l0_2 t390 t391 t392 _ ?side1 ?side2 A11.out).mono ?_); (case side1 => exact cU (Kd.C_below HR0_2.out HB.out)); (case side2 => exact HC0_2.out); rintro e w13 ⟨v393, rfl, ho0, hb⟩; refine ⟨_, rfl, ?_⟩; have n_ := aC (Kd.R_below (rU HO_4.out) hb) (aC (Kd.S_elder' (by (with_reducible repeat (first | apply Kd.S_alloc | apply Kd.S_drewN | apply Kd.S_drew)); exact HO_6.out) (Kd.R_base ho0) hb) (aC (Kd.R_lower ho0 bz) (aC (blk_below (bU BK384.out) hb) (aE (bs hb))))); clear HO_4 HO_6 BK384 HB; obtain ⟨HO_4, HO_6, HO394, BK384, HB⟩ := n_) | ((with_reducible refine gd 8 rfl ?_); refine bx 8 #[.int .i64 0, .int .i64 0, .slice none 0 0] 24 rfl rfl ?_; intro gb395 hg w14 hbox hb; have n_ := aC (Kd.R_below (rU HO_4.out) hb) (aC (Kd.S_below (by (with_reducible repeat (first | apply Kd.S_alloc | apply Kd.S_drewN | apply Kd.S_drew)); exact HO_6.out) hb) (aC (Kd.R_below (rU HO394.out) hb) (aC (blk_below (bU BK384.out) hb) (aC (bs hb) (aC hbox (aC (gz hg) (aC (gz hg) (aC (gn hg (bU BK384.out)) (aE (gm hg (bU BK384.out))))))))))); clear HO_4 HO_6 HO394 BK384 HB; obtain ⟨HO_4, HO_6, HO394, BK384, HB, BK395, GW395, GE395, NB384_395, NB395_384⟩ := n_; clear hb hbox hg; have hnb15 := NB395_384.out; have hnc15 := NB384_395.out; obtain ⟨hcz16_0, hcz16_1, hcz16_2, hfz16_0, hfz16_1, hfz16_2⟩ := cz3f BK395.out; obtain ⟨Ao17, co17, eo17⟩ := Kd.R_slice HO394.out; subst eo17))
     go_loopg [9] k1 (fun kq v9 w' => ∃ (x9_2 : Int) (x396002_2 : List Int) (u396002 : Value), v9 = .int .i64 x9_2 ∧ Aside0 (incunableref15_Components.l1 kq t386 t389 x6_1 x7_1 x9_2 a0_0 a0_1 l0_2 t390 t391 x396002_2 = some (r1, r2)) ∧ Aside0 (kq ≤ k1) ∧ Aside0 (Kd.R (Kd.int .i64) 3 w' w.heap.size (fun _ => True) v387 t386) ∧ Aside0 (Kd.S k35 35 w' w.heap.size (fun k_ => some k_ ≠ (u396002 : Value).ownBlock) u6 x6_1) ∧ Aside0 (Kd.R (Kd.int .u8) 5 w' w.heap.size (fun _ => True) u396002 x396002_2) ∧ Aside0 (w'.heap[gb384]? = some (.cells #[.int .i64 a0_0, .int .i64 a0_1, (.slice A0_2 l0_2.length c0_2)] 24 (0, 0))) ∧ Aside0 (w'.heap[gb395]? = some (.cells #[.int .i64 t390, .int .i64 t391, u396002] 24 (0, 0))) ∧ Aside0 (Below w.heap.size w w'))
     case atStart => exact ⟨(0), (t392), (.slice Ao17 t392.length co17), rq, H', ⟨Nat.le_refl _⟩, ⟨rU (Kd.R_mono (Kd.R_far (p := ⟨gb395, 2, none⟩) (Kd.R_far (p := ⟨gb395, 1, none⟩) (Kd.R_far (p := ⟨gb395, 0, none⟩) (Kd.R_types HO_4.out BK395.out (by decide)) (fun _ hk => hk.2) (.int .i64 t390)) (fun _ hk => hk.2) (.int .i64 t391)) (fun _ hk => hk.2) (.slice Ao17 t392.length co17)) (fun _ hk => trivial))⟩, ⟨by (with_reducible repeat (first | apply Kd.S_alloc | apply Kd.S_drewN | apply Kd.S_drew)); exact Kd.S_mono (Kd.S_far (p := ⟨gb395, 2, none⟩) (Kd.S_far (p := ⟨gb395, 1, none⟩) (Kd.S_far (p := ⟨gb395, 0, none⟩) (Kd.S_types HO_6.out BK395.out (by decide)) (fun _ hk => hk.2) (.int .i64 t390)) (fun _ hk => hk.2) (.int .i64 t391)) (fun _ hk => hk.2) (.slice Ao17 t392.length co17)) (fun _ hk => hk.1.2)⟩, ⟨rU (Kd.R_mono (Kd.R_far (p := ⟨gb395, 2, none⟩) (Kd.R_far (p := ⟨gb395, 1, none⟩) (Kd.R_far (p := ⟨gb395, 0, none⟩) (Kd.R_types HO394.out BK395.out (by decide)) (fun _ hk => hk.2) (.int .i64 t390)) (fun _ hk => hk.2) (.int .i64 t391)) (fun _ hk => hk.2) (.slice Ao17 t392.length co17)) (fun _ hk => trivial))⟩, ⟨by refine bF ?_ ?_; exact NB384_395.out; refine bF ?_ ?_; exact NB384_395.out; refine bF ?_ ?_; exact NB384_395.out; exact bU BK384.out⟩, ⟨by (with_reducible repeat (first | refine blk_drewN ?_ _ | refine blk_drew ?_ | refine blk_alloc ?_ _)); refine blk_put (cs := #[.int .i64 t390, .int .i64 t391, .slice none 0 0]) ?_ 2 _ rfl; (with_reducible repeat (first | refine blk_drewN ?_ _ | refine blk_drew ?_ | refine blk_alloc ?_ _)); refine blk_put (cs := #[.int .i64 t390, .int .i64 0, .slice none 0 0]) ?_ 1 _ rfl; (with_reducible repeat (first | refine blk_drewN ?_ _ | refine blk_drew ?_ | refine blk_alloc ?_ _)); refine blk_put (cs := #[.int .i64 0, .int .i64 0, .slice none 0 0]) ?_ 0 _ rfl; exact bU BK395.out⟩, ⟨bl⟩⟩
     case round =>
      clear H'
      obtain ⟨x9_2, x396002_2, u396002, rfl, HA, HK2, HO_4, HO_6, HO_396002, BK384, BK395, HB⟩ := hrel
      cases gk with
      | zero => exact absurd HA.out (by simp [incunableref15_Components.l1])
      | succ k2 =>
       have H := HA.out
       clear HA
       simp only [incunableref15_Components.l1] at H
       rcases iL H with H1 | H1 <;> clear H <;> obtain ⟨H, c18b0⟩ := H1
       ·by_cases c19 : 0 ≤ x9_2
        ·rw [if_pos c19] at H
         have c19b0 := decide_eq_true c19
         clear c19
         rcases iE H with H1 | H1 <;> clear H <;> obtain ⟨H, c20b0, c20b1, c20⟩ := H1
         ·have H' := Aside0.mk H
          clear H
          obtain ⟨Ao21, co21, eo21⟩ := Kd.R_slice HO_4.out
          subst eo21
          have p396 : 0 ≤ (x9_2 : Int) := dt
          have q396 : x9_2 < (t386.length : Int) := dt
          obtain ⟨ad396, e396, hx396_0⟩ := Kd.at_int (Kd.R_reads' HO_4.out).2.2 x9_2 p396 q396
          cases e396
          replace p396 := eq_true p396
          replace q396 := eq_true q396
          go_wp2
          go_roundg k2
          case measure => have := HK1.out; have := HK2.out; omega
          case rel => exact ⟨(wrap64 (x9_2 + 1)), (x396002_2), (u396002), rq, H', ⟨by have := HK1.out; have := HK2.out; omega⟩, ⟨rU HO_4.out⟩, ⟨by (with_reducible repeat (first | apply Kd.S_alloc | apply Kd.S_drewN | apply Kd.S_drew)); exact HO_6.out⟩, ⟨rU HO_396002.out⟩, ⟨by exact bU BK384.out⟩, ⟨by exact bU BK395.out⟩, ⟨bl⟩⟩
         ·by_cases c22 : x9_2 < (x396002_2.length : Int)
          ·rw [if_pos c22] at H
           have c22b0 := decide_eq_true c22
           clear c22
           obtain ⟨y397, hy_⟩ : ∃ y_ : List Int, y_ = (x396002_2.set (x9_2 : Int).toNat 0) := ⟨_, rfl⟩
           replace H : (incunableref15_Components.l1 k2 t386 t389 x6_1 x7_1 (wrap64 (x9_2 + 1)) a0_0 a0_1 l0_2 t390 t391 y397) = some (r1, r2) := rh
           have Ny397 := aE hy_
           clear hy_
           have H' := Aside0.mk H
           clear H
           obtain ⟨Ao24, co24, eo24⟩ := Kd.R_slice HO_4.out
           subst eo24
           have p396 : 0 ≤ (x9_2 : Int) := dt
           have q396 : x9_2 < (t386.length : Int) := dt
           obtain ⟨ad396, e396, hx396_0⟩ := Kd.at_int (Kd.R_reads' HO_4.out).2.2 x9_2 p396 q396
           cases e396
           replace p396 := eq_true p396
           replace q396 := eq_true q396
           have hnb25 := NB395_384.out
           have hnc25 := NB384_395.out
           obtain ⟨hcz26_0, hcz26_1, hcz26_2, hfz26_0, hfz26_1, hfz26_2⟩ := cz3f BK395.out
           have p23 : 0 ≤ (x9_2 : Int) := dt
           have q23 : (x9_2 : Int) < ((x396002_2.length : Int) : Int) := dt
           obtain ⟨go23, co23, eo23, gb23, gl23, cl23, HG23⟩ := Kd.R_form HO_396002.out (by omega)
           (first | cases eo23 | (injection eo23 with ea_ en_ ec_; (first | subst ea_ | (injection ea_ with ea_; subst ea_)); subst ec_; clear en_))
           have GB23 := Aside0.mk gb23
           have GG23 := Aside0.mk HG23
           clear gb23 gl23 HG23
           obtain ⟨hx23_0, hf23_0⟩ := Kd.R_celln 0 HO_396002.out (x9_2 : Int) p23 q23
           replace p23 := eq_true p23
           replace q23 := eq_true q23
           have HP27 := Kd.R_putg HO_396002.out (x9_2 : Int) 0
           go_wp2_with (first | ((with_reducible refine gate_store (t := 5) (p := 44) rfl ?_); refine store_event (t := 5) (p := 44) (v := ?vo_w28) (w1 := (wr.setCell ⟨go23, (x9_2 : Int).toNat, none⟩ (.int .u8 0))) ?hg ?ho ?hn ?hr ?_; (case ho => rfl); (case hg => rfl); (case hn => rfl); (case hr => first | (go_simp; done) | (go_simp; rfl)); intro w28 hw; have hg : wr.grownBy w28 (some go23) := (by rw [hw]; exact HP27.2); have hp_ : Kd.R (Kd.int .u8) 5 w28 w.heap.size (fun _ => True) (.slice (some ⟨go23, 0, none⟩) x396002_2.length co23) y397 := (by rw [hw, Ny397.out]; exact HP27.1); clear HP27; have n_ := aC (Kd.R_over' (v := (.slice (some ⟨go23, 0, none⟩) x396002_2.length co23)) (rU HO_4.out) (Kd.R_typed HO_396002.out) (by decide) hg) (aC (Kd.S_after (v := (.slice (some ⟨go23, 0, none⟩) x396002_2.length co23)) (v1 := (.slice (some ⟨go23, 0, none⟩) x396002_2.length co23)) (ok := (fun _ => True)) (by (with_reducible repeat (first | apply Kd.S_alloc | apply Kd.S_drewN | apply Kd.S_drew)); exact Kd.S_mono HO_6.out (fun _ hk => ⟨trivial, hk⟩)) hg (.inl rfl)) (aC hp_ (aC (blk_grown (bU BK384.out) hg (Kd.R_ne HO_396002.out BK384.out (by decide))) (aC (blk_grown (bU BK395.out) hg (Kd.R_ne HO_396002.out BK395.out (by decide))) (aE ((by rw [hw]; exact below_set (HB.out) GB23.out : Below w.heap.size w w28))))))); clear HO_4 HO_6 HO_396002 BK384 BK395 HB; obtain ⟨HO_4, HO_6, HO_396002, BK384, BK395, HB⟩ := n_; clear hg hw hp_))
           go_roundg k2
           case measure => have := HK1.out; have := HK2.out; omega
           case rel => exact ⟨(wrap64 (x9_2 + 1)), (y397), (.slice (some ⟨go23, 0, none⟩) x396002_2.length co23), rq, H', ⟨by have := HK1.out; have := HK2.out; omega⟩, ⟨rU HO_4.out⟩, ⟨by (with_reducible repeat (first | apply Kd.S_alloc | apply Kd.S_drewN | apply Kd.S_drew)); exact Kd.S_mono HO_6.out (fun _ hk => hk.2)⟩, ⟨rU HO_396002.out⟩, ⟨by exact bU BK384.out⟩, ⟨by exact bU BK395.out⟩, ⟨bl⟩⟩
          ·rw [if_neg c22] at H
           exact absurd H (by simp)
        ·rw [if_neg c19] at H
         exact absurd H (by simp)
       ·obtain ⟨⟨t398, t399, t400, t403, t404, t405⟩, A29, H⟩ := oB H
        try dsimp only at H
        by_cases c30 : x6_1.length < 2513169434916
        ·rw [if_pos c30] at H
         have LMc30 := Aside0.mk c30
         clear c30
         obtain ⟨y407, hy_⟩ : ∃ y_ : List (S35), y_ = (x6_1 ++ [(⟨(⟨t398, t399, t400⟩ : S24), t403, t404⟩ : S35)]) := ⟨_, rfl⟩
         replace H : (incunableref15_Components.l0 k2 t386 t389 y407 (wrap64 (x7_1 + 1)) a0_0 a0_1 l0_2) = some (r1, r2) := rh
         have Ny407 := aE hy_
         clear hy_
         have H' := Aside0.mk H
         clear H
         obtain ⟨Ao31, co31, eo31⟩ := Kd.R_slice HO_4.out
         subst eo31
         have hnb32 := NB395_384.out
         have hnc32 := NB384_395.out
         obtain ⟨hcz33_0, hcz33_1, hcz33_2, hfz33_0, hfz33_1, hfz33_2⟩ := cz3f BK395.out
         obtain ⟨Ao34, co34, eo34⟩ := Kd.R_slice HO_396002.out
         subst eo34
         go_wp2_with (first | ((with_reducible refine gf 21 rfl ?_); refine gL (some 47) rfl rfl Try.func21 rfl #[.agg #[.int .i64 t390, .int .i64 t391, .slice Ao34 x396002_2.length co34]] rfl ?_; (with_reducible refine (incunableref05_Trim.calls k2 t390 t391 _ _ x396002_2 t398 t399 t400 t403 t404 t405 _ ?side1 ?side2 A29.out).mono ?_); (case side1 => exact cU (Kd.R_reads' HO_396002.out).2.2); (case side2 => exact (Kd.R_reads' HO_396002.out).2.1); rintro e w35 ⟨v401, rfl, ho0, hb⟩; refine ⟨_, rfl, ?_⟩; have n_ := aC (Kd.R_below (rU HO_4.out) hb) (aC (Kd.S_elder' (by (with_reducible repeat (first | apply Kd.S_alloc | apply Kd.S_drewN | apply Kd.S_drew)); exact HO_6.out) (Kd.R_base ho0) hb) (aC (Kd.R_elder' (rU HO_396002.out) (Kd.R_base ho0) hb) (aC (Kd.R_lower (Kd.R_new' ho0 (Kd.R_lt (rU HO_396002.out))) bz) (aC (blk_below (bU BK384.out) hb) (aC (blk_below (bU BK395.out) hb) (aE (bs hb))))))); clear HO_4 HO_6 HO_396002 BK384 BK395 HB; obtain ⟨HO_4, HO_6, HO_396002, HO402, BK384, BK395, HB⟩ := n_) | ((with_reducible refine gd 10 rfl ?_); refine bx 10 #[.int .i64 0, .int .i64 0, .slice none 0 0] 24 rfl rfl ?_; intro gb406 hg w36 hbox hb; have n_ := aC (Kd.R_below (rU HO_4.out) hb) (aC (Kd.S_below (by (with_reducible repeat (first | apply Kd.S_alloc | apply Kd.S_drewN | apply Kd.S_drew)); exact HO_6.out) hb) (aC (Kd.R_below (rU HO_396002.out) hb) (aC (Kd.R_below (rU HO402.out) hb) (aC (blk_below (bU BK384.out) hb) (aC (blk_below (bU BK395.out) hb) (aC (bs hb) (aC hbox (aC (gz hg) (aC (gz hg) (aC (gn hg (bU BK384.out)) (aC (gm hg (bU BK384.out)) (aC (gn hg (bU BK395.out)) (aE (gm hg (bU BK395.out))))))))))))))); clear HO_4 HO_6 HO_396002 HO402 BK384 BK395 HB; obtain ⟨HO_4, HO_6, HO_396002, HO402, BK384, BK395, HB, BK406, GW406, GE406, NB384_406, NB406_384, NB395_406, NB406_395⟩ := n_; clear hb hbox hg; have hnb37 := NB406_384.out; have hnc37 := NB384_406.out; have hnb38 := NB406_395.out; have hnc38 := NB395_406.out; obtain ⟨hcz39_0, hcz39_1, hcz39_2, hfz39_0, hfz39_1, hfz39_2⟩ := cz3f BK406.out; obtain ⟨Ao40, co40, eo40⟩ := Kd.R_slice HO402.out; subst eo40) | ((with_reducible refine gate_store (t := 24) (p := 10) rfl ?_); refine store_event (t := 24) (p := 10) (v := ?vo_w41) (w1 := (((w36.setCell ⟨gb406, 0, none⟩ (.int .i64 t398)).setCell ⟨gb406, 1, none⟩ (.int .i64 t399)).setCell ⟨gb406, 2, none⟩ (.slice Ao40 t400.length co40))) ?hg ?ho ?hn ?hr ?_; (case ho => rfl); (case hg => rfl); (case hn => rfl); (case hr => first | (go_simp; done) | (go_simp; rfl)); intro w41 hw; have n_ := aC (show Kd.R (Kd.int .i64) 3 w41 w.heap.size (fun _ => True) (.slice Ao31 t386.length co31) t386 from (by rw [hw]; exact (rU (Kd.R_mono (Kd.R_far (p := ⟨gb406, 2, none⟩) (Kd.R_far (p := ⟨gb406, 1, none⟩) (Kd.R_far (p := ⟨gb406, 0, none⟩) (Kd.R_types HO_4.out BK406.out (by decide)) (fun _ hk => hk.2) (.int .i64 t398)) (fun _ hk => hk.2) (.int .i64 t399)) (fun _ hk => hk.2) (.slice Ao40 t400.length co40)) (fun _ hk => trivial))))) (aC (show Kd.S k35 35 w41 w.heap.size (fun k_ => some k_ ≠ (.slice Ao34 x396002_2.length co34 : Value).ownBlock ∧ some k_ ≠ (.slice Ao40 t400.length co40 : Value).ownBlock) u6 x6_1 from (by rw [hw]; exact (by (with_reducible repeat (first | apply Kd.S_alloc | apply Kd.S_drewN | apply Kd.S_drew)); exact Kd.S_mono (Kd.S_far (p := ⟨gb406, 2, none⟩) (Kd.S_far (p := ⟨gb406, 1, none⟩) (Kd.S_far (p := ⟨gb406, 0, none⟩) (Kd.S_types HO_6.out BK406.out (by decide)) (fun _ hk => hk.2) (.int .i64 t398)) (fun _ hk => hk.2) (.int .i64 t399)) (fun _ hk => hk.2) (.slice Ao40 t400.length co40)) (fun _ hk => ⟨hk.1.1, hk.1.2⟩)))) (aC (show Kd.R (Kd.int .u8) 5 w41 w.heap.size (fun k_ => some k_ ≠ (.slice Ao40 t400.length co40 : Value).ownBlock) (.slice Ao34 x396002_2.length co34) x396002_2 from (by rw [hw]; exact (rU (Kd.R_mono (Kd.R_far (p := ⟨gb406, 2, none⟩) (Kd.R_far (p := ⟨gb406, 1, none⟩) (Kd.R_far (p := ⟨gb406, 0, none⟩) (Kd.R_types HO_396002.out BK406.out (by decide)) (fun _ hk => hk.2) (.int .i64 t398)) (fun _ hk => hk.2) (.int .i64 t399)) (fun _ hk => hk.2) (.slice Ao40 t400.length co40)) (fun _ hk => hk.1.2))))) (aC (show Kd.R (Kd.int .u8) 5 w41 w.heap.size (fun k_ => some k_ ≠ (.slice Ao34 x396002_2.length co34 : Value).ownBlock) (.slice Ao40 t400.length co40) t400 from (by rw [hw]; exact (rU (Kd.R_mono (Kd.R_far (p := ⟨gb406, 2, none⟩) (Kd.R_far (p := ⟨gb406, 1, none⟩) (Kd.R_far (p := ⟨gb406, 0, none⟩) (Kd.R_types HO402.out BK406.out (by decide)) (fun _ hk => hk.2) (.int .i64 t398)) (fun _ hk => hk.2) (.int .i64 t399)) (fun _ hk => hk.2) (.slice Ao40 t400.length co40)) (fun _ hk => hk.1.2))))) (aC (show w41.heap[gb384]? = some (.cells #[.int .i64 a0_0, .int .i64 a0_1, .slice A0_2 l0_2.length c0_2] 24 (0, 0)) from (by rw [hw]; exact (by refine bF ?_ ?_; exact NB384_406.out; refine bF ?_ ?_; exact NB384_406.out; refine bF ?_ ?_; exact NB384_406.out; exact bU BK384.out))) (aC (show w41.heap[gb395]? = some (.cells #[.int .i64 t390, .int .i64 t391, .slice Ao34 x396002_2.length co34] 24 (0, 0)) from (by rw [hw]; exact (by refine bF ?_ ?_; exact NB395_406.out; refine bF ?_ ?_; exact NB395_406.out; refine bF ?_ ?_; exact NB395_406.out; exact bU BK395.out))) (aC (show w41.heap[gb406]? = some (.cells #[.int .i64 t398, .int .i64 t399, .slice Ao40 t400.length co40] 24 (0, 0)) from (by rw [hw]; exact (by (with_reducible repeat (first | refine blk_drewN ?_ _ | refine blk_drew ?_ | refine blk_alloc ?_ _)); refine blk_put (cs := #[.int .i64 t398, .int .i64 t399, .slice none 0 0]) ?_ 2 _ rfl; (with_reducible repeat (first | refine blk_drewN ?_ _ | refine blk_drew ?_ | refine blk_alloc ?_ _)); refine blk_put (cs := #[.int .i64 t398, .int .i64 0, .slice none 0 0]) ?_ 1 _ rfl; (with_reducible repeat (first | refine blk_drewN ?_ _ | refine blk_drew ?_ | refine blk_alloc ?_ _)); refine blk_put (cs := #[.int .i64 0, .int .i64 0, .slice none 0 0]) ?_ 0 _ rfl; exact bU BK406.out))) (aE (show Below w.heap.size w w41 from (by rw [hw]; exact bl))))))))); clear hw HO_4 HO_6 HO_396002 HO402 BK384 BK395 BK406 HB; obtain ⟨HO_4, HO_6, HO_396002, HO402, BK384, BK395, BK406, HB⟩ := n_; obtain ⟨hcz42_0, hcz42_1, hcz42_2, hfz42_0, hfz42_1, hfz42_2⟩ := cz3f BK406.out) | ((with_reducible refine gate_builtin (b := .append) (xs := #[.tmp 52, .tmp 57]) rfl ?_); at_builtin; refine Kd.S_append k35 (w0 := w) w.heap.size rfl (.tmp 52) (.tmp 57) 30 35 (.agg #[(.int .i64 0), (.int .i64 0), (.slice none 0 0), (.int .i64 0), (.int .i64 0)]) 56 rfl Try.underlying30 info35 rfl (by decide) (by omega) u6 x6_1 (⟨(⟨t398, t399, t400⟩ : S24), t403, t404⟩ : S35) [.int .i64 t398, .int .i64 t399, .slice Ao40 t400.length co40, .int .i64 t403, .int .i64 t404] (fun k_ => some k_ ≠ (.slice Ao34 x396002_2.length co34 : Value).ownBlock) (fun k_ => some k_ = (.slice Ao40 t400.length co40 : Value).ownBlock) rfl rfl ?aP (fun k_ hk_ => ((Kd.R_mono (ok' := fun k_ => ((fun k_ => some k_ ≠ (.slice Ao34 x396002_2.length co34 : Value).ownBlock)) k_ ∧ some k_ ≠ (u6 : Value).ownBlock) (Kd.R_apart' (HO402.out) (Kd.S_typed HO_6.out) (by decide)) (fun k_ hk => ⟨hk.1, hk.2⟩))).1 k_ hk_.symm) ?aF ?aO ?aB ?aS ?aL ?_; (case aP => exact k35_mkM _ _ _ (⟨(⟨t398, t399, t400⟩ : S24), t403, t404⟩ : S35) (Kd.R_mono (Kd.R_tight rfl (Kd.R_mono (ok' := fun k_ => ((fun k_ => some k_ ≠ (.slice Ao34 x396002_2.length co34 : Value).ownBlock)) k_ ∧ some k_ ≠ (u6 : Value).ownBlock) (Kd.R_apart' (HO402.out) (Kd.S_typed HO_6.out) (by decide)) (fun k_ hk => ⟨hk.1, hk.2⟩))) (fun _ h_ => h_))); (case aB => exact bl); (case aF => exact (fun k_ hk => Kd.fresh' (Kd.R_lt (rU HO_396002.out)) k_ hk)); (case aO => exact (by (with_reducible repeat (first | apply Kd.S_alloc | apply Kd.S_drewN | apply Kd.S_drew)); exact Kd.S_mono HO_6.out (fun k_ hk => ⟨hk.1, fun e_ => hk.2 e_⟩))); (case aS => exact bz); (case aL => have := LMc30.out; omega); intro v408 w43 ho hb hg hat; rw [← Ny407.out] at ho; have n_ := aC (Kd.R_over' (rU HO_4.out) (Kd.S_typed (by (with_reducible repeat (first | apply Kd.S_alloc | apply Kd.S_drewN | apply Kd.S_drew)); exact HO_6.out)) (by decide) hg) (aC (Kd.R_over' (rU HO_396002.out) (Kd.S_typed (by (with_reducible repeat (first | apply Kd.S_alloc | apply Kd.S_drewN | apply Kd.S_drew)); exact HO_6.out)) (by decide) hg) (aC (blk_grown (bU BK384.out) hg (Kd.S_ne HO_6.out BK384.out (by decide))) (aC (blk_grown (bU BK395.out) hg (Kd.S_ne HO_6.out BK395.out (by decide))) (aC (blk_grown (bU BK406.out) hg (Kd.S_ne HO_6.out BK406.out (by decide))) (aC hb (aE ho)))))); clear HO_4 HO_396002 BK384 BK395 BK406 HB HO_6 HO402; obtain ⟨HO_4, HO_396002, BK384, BK395, BK406, HB, HO409⟩ := n_; clear ho hb hg hat))
         go_roundg k2
         case measure => have := HK1.out; have := HK2.out; omega
         case rel => exact ⟨(y407), (wrap64 (x7_1 + 1)), rq, H', ⟨by have := HK1.out; have := HK2.out; omega⟩, ⟨rU HO_4.out⟩, ⟨by (with_reducible repeat (first | apply Kd.S_alloc | apply Kd.S_drewN | apply Kd.S_drew)); exact Kd.S_mono HO409.out (fun _ hk => trivial)⟩, ⟨by exact bU BK384.out⟩, ⟨bl⟩⟩
        ·rw [if_neg c30] at H
         exact absurd H (by simp)
    ·simp only [Option.some.injEq, Prod.mk.injEq] at H
     obtain ⟨rfl, rfl⟩ := H
     go_wp2
     go_ret2
     exact ⟨_, re, by (with_reducible repeat (first | apply Kd.S_alloc | apply Kd.S_drewN | apply Kd.S_drew)); exact HO_6.out, bl⟩
 ·replace c3 := Bool.eq_false_iff.mpr c3
  subst c3
  rw [if_neg Bool.false_ne_true] at H
  simp only [Option.some.injEq, Prod.mk.injEq] at H
  obtain ⟨rfl, rfl⟩ := H
  go_enter Try.func8, Try.ntmps8
  go_wp2_with (first | ((with_reducible refine gd 1 rfl ?_); refine bx 1 #[.int .i64 a0_0, .int .i64 a0_1, .slice A0_2 l0_2.length c0_2] 24 rfl rfl ?_; intro gb384 hg w44 hbox hb; have n_ := aC (bs hb) (aC hbox (aC (gz hg) (aE (gz hg)))); clear HB; obtain ⟨HB, BK384, GW384, GE384⟩ := n_; clear hb hbox hg; obtain ⟨hcz45_0, hcz45_1, hcz45_2, hfz45_0, hfz45_1, hfz45_2⟩ := cz3f BK384.out) | ((with_reducible refine gf 18 rfl ?_); refine gL (some 15) rfl rfl Try.func18 rfl #[.agg #[.int .i64 a0_0, .int .i64 a0_1, .slice A0_2 l0_2.length c0_2]] rfl ?_; (with_reducible refine (incunableref05_Valid.calls k a0_0 a0_1 _ _ l0_2 false _ ?side1 ?side2 A2.out).mono ?_); (case side1 => exact cU (Kd.C_below HR0_2.out HB.out)); (case side2 => exact HC0_2.out); rintro e w46 ⟨rfl, hb⟩; refine ⟨_, rfl, ?_⟩; have n_ := aC (blk_below (bU BK384.out) hb) (aE (bs hb)); clear BK384 HB; obtain ⟨BK384, HB⟩ := n_))
  go_ret2
  exact ⟨_, re, by first | exact Kd.S_nil _ _ _ _ _ | exact Kd.N_nil _ _ _ _ _ | exact Kd.V_nil _ _ _ _ _ | exact Kd.Q_nil _ _ _ _ _ | exact Kd.R_nil _ _ _ _ _, bl⟩
def incunableref05_Blacks.l0 : Nat → Int → Int → Int → Int → List Int → Option (Int)
 | 0, _, _, _, _, _ => none
 | k + 1, x3, x4, x411000, x411001, x411002 => if x4 < (x411002.length : Int) then (if 0 ≤ x4 then (incunableref05_Blacks.l0 k (wrap64 (x3 + (wrap64 (rd x411002 x4)))) (wrap64 (x4 + 1)) x411000 x411001 x411002) else (none)) else (some x3)
def incunableref05_Blacks.f (k : Nat) (a0_0 : Int) (a0_1 : Int) (l0_2 : List Int) : Option (Int) := incunableref05_Blacks.l0 k 0 0 a0_0 a0_1 l0_2
theorem incunableref05_Blacks.mono_l : ∀ k, (∀ y0 y1 y2 y3 y4, LeO (incunableref05_Blacks.l0 k y0 y1 y2 y3 y4) (incunableref05_Blacks.l0 (k + 1) y0 y1 y2 y3 y4))
 | 0 => fun _ _ _ _ _ r h => by simp [incunableref05_Blacks.l0] at h
 | k + 1 => by
  have ih0 := incunableref05_Blacks.mono_l k
  ·intro y0 y1 y2 y3 y4
   unfold incunableref05_Blacks.l0
   repeat' first
   | (with_reducible exact ih0 _ _ _ _ _)
   | (with_reducible first | exact LeO.refl _ | exact LeO.none _ | refine LeO.ite ?_ ?_ | refine LeO.bind ?_ (fun _ => ?_))
theorem incunableref05_Blacks.mono : ∀ a0 a1 a2 k, LeO (incunableref05_Blacks.f k a0 a1 a2) (incunableref05_Blacks.f (k + 1) a0 a1 a2) := by
 intro a0 a1 a2 k
 have ih0 := incunableref05_Blacks.mono_l k
 unfold incunableref05_Blacks.f
 repeat' first
   | (with_reducible exact ih0 _ _ _ _ _)
   | (with_reducible first | exact LeO.refl _ | exact LeO.none _ | refine LeO.ite ?_ ?_ | refine LeO.bind ?_ (fun _ => ?_))
set_option maxHeartbeats 8000000 in
set_option maxRecDepth 100000 in
theorem incunableref05_Blacks.calls (k : Nat) (a0_0 : Int) (a0_1 : Int) (A0_2 : Option Addr) (c0_2 : Nat) (l0_2 : List Int) (r : Int) (w : World) (hr0_2 : Kd.C (Kd.int .u8) w A0_2 l0_2.length l0_2) (hc0_2 : l0_2.length ≤ c0_2) (h : incunableref05_Blacks.f k a0_0 a0_1 l0_2 = some r) :
  Calls Try.prog 9 #[.agg #[.int .i64 a0_0, .int .i64 a0_1, .slice A0_2 l0_2.length c0_2]] w fun e w' => e = .returned (.int .i64 r) ∧ Below w.heap.size w w' := by
 have hu24 := Try.underlying24
 have HR0_2 := Aside0.mk hr0_2
 have HC0_2 := Aside0.mk hc0_2
 clear hr0_2 hc0_2
 have HB := Aside0.mk (Below.refl w.heap.size w)
 have H : (incunableref05_Blacks.l0 k 0 0 a0_0 a0_1 l0_2) = some r := h
 clear h
 have H' := Aside0.mk H
 clear H
 go_enter Try.func9, Try.ntmps9
 go_wp2_with (first | ((with_reducible refine gd 1 rfl ?_); refine bx 1 #[.int .i64 a0_0, .int .i64 a0_1, .slice A0_2 l0_2.length c0_2] 24 rfl rfl ?_; intro gb410 hg w2 hbox hb; have n_ := aC (bs hb) (aC hbox (aC (gz hg) (aE (gz hg)))); clear HB; obtain ⟨HB, BK410, GW410, GE410⟩ := n_; clear hb hbox hg))
 go_loopg [3, 4] k (fun kq v3 v4 w' => ∃ (x3_1 : Int) (x4_1 : Int), v3 = .int .i64 x3_1 ∧ v4 = .int .i64 x4_1 ∧ Aside0 (incunableref05_Blacks.l0 kq x3_1 x4_1 a0_0 a0_1 l0_2 = some r) ∧ Aside0 (kq ≤ k) ∧ Aside0 (w'.heap[gb410]? = some (.cells #[.int .i64 a0_0, .int .i64 a0_1, (.slice A0_2 l0_2.length c0_2)] 24 (0, 0))) ∧ Aside0 (Below w.heap.size w w'))
 case atStart => exact ⟨(0), (0), rq, rq, H', ⟨Nat.le_refl _⟩, ⟨by exact bU BK410.out⟩, ⟨bl⟩⟩
 case round =>
  clear H'
  obtain ⟨x3_1, x4_1, rfl, rfl, HA, HK1, BK410, HB⟩ := hrel
  cases gk with
  | zero => exact absurd HA.out (by simp [incunableref05_Blacks.l0])
  | succ k1 =>
   have H := HA.out
   clear HA
   simp only [incunableref05_Blacks.l0] at H
   rcases iL H with H1 | H1 <;> clear H <;> obtain ⟨H, c3b0⟩ := H1
   ·by_cases c4 : 0 ≤ x4_1
    ·rw [if_pos c4] at H
     have c4b0 := decide_eq_true c4
     clear c4
     have H' := Aside0.mk H
     clear H
     obtain ⟨hcz5_0, hcz5_1, hcz5_2, hfz5_0, hfz5_1, hfz5_2⟩ := cz3f BK410.out
     have p411 : 0 ≤ (x4_1 : Int) := dt
     have q411 : x4_1 < (l0_2.length : Int) := dt
     obtain ⟨ad411, e411, hx411_0⟩ := Kd.at_int HR0_2.out x4_1 p411 q411
     cases e411
     replace hx411_0 := hcB HB.out hx411_0
     replace p411 := eq_true p411
     replace q411 := eq_true q411
     go_wp2
     go_roundg k1
     case measure => have := HK1.out; omega
     case rel => exact ⟨(wrap64 (x3_1 + (wrap64 (rd l0_2 x4_1)))), (wrap64 (x4_1 + 1)), rq, rq, H', ⟨by have := HK1.out; omega⟩, ⟨by exact bU BK410.out⟩, ⟨bl⟩⟩
    ·rw [if_neg c4] at H
     exact absurd H (by simp)
   ·obtain rfl := Option.some.inj H
    obtain ⟨hcz6_0, hcz6_1, hcz6_2, hfz6_0, hfz6_1, hfz6_2⟩ := cz3f BK410.out
    go_wp2
    go_ret
    exact ⟨re, bl⟩
end Go.Proofs.Ytnnbfkmmjclhaaa.PScanSpecks
