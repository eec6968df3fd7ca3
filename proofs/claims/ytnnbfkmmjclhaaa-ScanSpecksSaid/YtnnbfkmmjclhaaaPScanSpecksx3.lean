-- printed (wip/tools/myprint.py)
import Derived.Test.YtnnbfkmmjclhaaaPScanSpecksx0
namespace Go.Proofs.Ytnnbfkmmjclhaaa.PScanSpecks
open Go.RowKit Go.Proofs.YtnnbfkmmjclhaaaW.PrintWords Go.Proofs.YtnnbfkmmjclhaaaW.PrintLast Go.Proofs.YtnnbfkmmjclhaaaW.PrintMore
attribute [local go_sem] max2_int min2_int max_two min_two max_three min_three max_four min_four
set_option linter.unusedVariables false
set_option linter.unusedSimpArgs false
mutual
def shape_flood.l0 : Nat → List Bool → List (S74) → Int → List (S74) → Int → Int → Int → List Int → Option ((List (S74)) × List Bool)
 | 0, _, _, _, _, _, _, _, _ => none
 | k + 1, x1, x3, x9, x10, x11, x155000, x155001, x155002 => if x11 < (x10.length : Int) then (shape_flood.l1 k x1 x3 x9 x10 x11 x3 (x3.length : Int) 0 x155000 x155001 x155002) else (some (x10, x1))
def shape_flood.l1 : Nat → List Bool → List (S74) → Int → List (S74) → Int → List (S74) → Int → Int → Int → Int → List Int → Option ((List (S74)) × List Bool)
 | 0, _, _, _, _, _, _, _, _, _, _, _ => none
 | k + 1, x1, x3, x9, x10, x11, x45, x46, x47, x155000, x155001, x155002 => if x47 < x46 then (if 0 ≤ x47 then (if x47 < (x45.length : Int) then (if 0 ≤ x11 then (if x11 < (x10.length : Int) then (if (wrap64 (((rd_T74 x10 x11).f0) + ((rd_T74 x45 x47).f0))) < 0 then (shape_flood.j2 k x1 x3 x9 x10 x11 x45 x46 x47 true x155000 x155001 x155002 (wrap64 (((rd_T74 x10 x11).f0) + ((rd_T74 x45 x47).f0))) (wrap64 (((rd_T74 x10 x11).f1) + ((rd_T74 x45 x47).f1)))) else (if (wrap64 (((rd_T74 x10 x11).f1) + ((rd_T74 x45 x47).f1))) < 0 then (shape_flood.j2 k x1 x3 x9 x10 x11 x45 x46 x47 true x155000 x155001 x155002 (wrap64 (((rd_T74 x10 x11).f0) + ((rd_T74 x45 x47).f0))) (wrap64 (((rd_T74 x10 x11).f1) + ((rd_T74 x45 x47).f1)))) else (if (wrap64 (((rd_T74 x10 x11).f0) + ((rd_T74 x45 x47).f0))) ≥ x155000 then (shape_flood.j2 k x1 x3 x9 x10 x11 x45 x46 x47 true x155000 x155001 x155002 (wrap64 (((rd_T74 x10 x11).f0) + ((rd_T74 x45 x47).f0))) (wrap64 (((rd_T74 x10 x11).f1) + ((rd_T74 x45 x47).f1)))) else (if (wrap64 (((rd_T74 x10 x11).f1) + ((rd_T74 x45 x47).f1))) ≥ x155001 then (shape_flood.j2 k x1 x3 x9 x10 x11 x45 x46 x47 true x155000 x155001 x155002 (wrap64 (((rd_T74 x10 x11).f0) + ((rd_T74 x45 x47).f0))) (wrap64 (((rd_T74 x10 x11).f1) + ((rd_T74 x45 x47).f1)))) else (if 0 ≤ (wrap64 ((wrap64 ((wrap64 (((rd_T74 x10 x11).f1) + ((rd_T74 x45 x47).f1))) * x155000)) + (wrap64 (((rd_T74 x10 x11).f0) + ((rd_T74 x45 x47).f0))))) then (if (wrap64 ((wrap64 ((wrap64 (((rd_T74 x10 x11).f1) + ((rd_T74 x45 x47).f1))) * x155000)) + (wrap64 (((rd_T74 x10 x11).f0) + ((rd_T74 x45 x47).f0))))) < (x1.length : Int) then (if rdOf false x1 (wrap64 ((wrap64 ((wrap64 (((rd_T74 x10 x11).f1) + ((rd_T74 x45 x47).f1))) * x155000)) + (wrap64 (((rd_T74 x10 x11).f0) + ((rd_T74 x45 x47).f0))))) = true then (shape_flood.j2 k x1 x3 x9 x10 x11 x45 x46 x47 true x155000 x155001 x155002 (wrap64 (((rd_T74 x10 x11).f0) + ((rd_T74 x45 x47).f0))) (wrap64 (((rd_T74 x10 x11).f1) + ((rd_T74 x45 x47).f1)))) else (if (wrap64 ((wrap64 ((wrap64 (((rd_T74 x10 x11).f1) + ((rd_T74 x45 x47).f1))) * x155000)) + (wrap64 (((rd_T74 x10 x11).f0) + ((rd_T74 x45 x47).f0))))) < (x155002.length : Int) then (shape_flood.j2 k x1 x3 x9 x10 x11 x45 x46 x47 ((rd x155002 (wrap64 ((wrap64 ((wrap64 (((rd_T74 x10 x11).f1) + ((rd_T74 x45 x47).f1))) * x155000)) + (wrap64 (((rd_T74 x10 x11).f0) + ((rd_T74 x45 x47).f0)))))) != x9) x155000 x155001 x155002 (wrap64 (((rd_T74 x10 x11).f0) + ((rd_T74 x45 x47).f0))) (wrap64 (((rd_T74 x10 x11).f1) + ((rd_T74 x45 x47).f1)))) else (none))) else (none)) else (none)))))) else (none)) else (none)) else (none)) else (none)) else (shape_flood.l0 k x1 x3 x9 x10 (wrap64 (x11 + 1)) x155000 x155001 x155002)
def shape_flood.j2 : Nat → List Bool → List (S74) → Int → List (S74) → Int → List (S74) → Int → Int → Bool → Int → Int → List Int → Int → Int → Option ((List (S74)) × List Bool)
 | 0, _, _, _, _, _, _, _, _, _, _, _, _, _, _ => none
 | k + 1, x1, x3, x9, x10, x11, x45, x46, x47, x118, x155000, x155001, x155002, x166000, x166001 => if x118 = true then (shape_flood.l1 k x1 x3 x9 x10 x11 x45 x46 (wrap64 (x47 + 1)) x155000 x155001 x155002) else (if 0 ≤ (wrap64 ((wrap64 (x166001 * x155000)) + x166000)) then (if (wrap64 ((wrap64 (x166001 * x155000)) + x166000)) < (x1.length : Int) then (if x10.length < 8796093022208 then (shape_flood.l1 k (x1.set ((wrap64 ((wrap64 (x166001 * x155000)) + x166000)) : Int).toNat true) x3 x9 (x10 ++ [(⟨x166000, x166001⟩ : S74)]) x11 x45 x46 (wrap64 (x47 + 1)) x155000 x155001 x155002) else (none)) else (none)) else (none))
end
def shape_flood.f (k : Nat) (a0_0 : Int) (a0_1 : Int) (l0_2 : List Int) (l1 : List Bool) (a2_0 : Int) (a2_1 : Int) (l3 : List (S74)) : Option ((List (S74)) × List Bool) := if 0 ≤ (wrap64 ((wrap64 (a2_1 * a0_0)) + a2_0)) then (if (wrap64 ((wrap64 (a2_1 * a0_0)) + a2_0)) < (l0_2.length : Int) then (if (wrap64 ((wrap64 (a2_1 * a0_0)) + a2_0)) < (l1.length : Int) then (shape_flood.l0 k (l1.set ((wrap64 ((wrap64 (a2_1 * a0_0)) + a2_0)) : Int).toNat true) l3 (rd l0_2 (wrap64 ((wrap64 (a2_1 * a0_0)) + a2_0))) (([(⟨a2_0, a2_1⟩ : S74)] : List (S74))) 0 a0_0 a0_1 l0_2) else (none)) else (none)) else (none)
theorem shape_flood.mono_l : ∀ k, (∀ y0 y1 y2 y3 y4 y5 y6 y7, LeO (shape_flood.l0 k y0 y1 y2 y3 y4 y5 y6 y7) (shape_flood.l0 (k + 1) y0 y1 y2 y3 y4 y5 y6 y7)) ∧ (∀ y0 y1 y2 y3 y4 y5 y6 y7 y8 y9 y10, LeO (shape_flood.l1 k y0 y1 y2 y3 y4 y5 y6 y7 y8 y9 y10) (shape_flood.l1 (k + 1) y0 y1 y2 y3 y4 y5 y6 y7 y8 y9 y10)) ∧ (∀ y0 y1 y2 y3 y4 y5 y6 y7 y8 y9 y10 y11 y12 y13, LeO (shape_flood.j2 k y0 y1 y2 y3 y4 y5 y6 y7 y8 y9 y10 y11 y12 y13) (shape_flood.j2 (k + 1) y0 y1 y2 y3 y4 y5 y6 y7 y8 y9 y10 y11 y12 y13))
 | 0 => ⟨fun _ _ _ _ _ _ _ _ r h => by simp [shape_flood.l0] at h, fun _ _ _ _ _ _ _ _ _ _ _ r h => by simp [shape_flood.l1] at h, fun _ _ _ _ _ _ _ _ _ _ _ _ _ _ r h => by simp [shape_flood.j2] at h⟩
 | k + 1 => by
  obtain ⟨ih0, ih1, ih2⟩ := shape_flood.mono_l k
  refine ⟨?_, ?_, ?_⟩
  ·intro y0 y1 y2 y3 y4 y5 y6 y7
   unfold shape_flood.l0
   repeat' first
   | (with_reducible exact ih0 _ _ _ _ _ _ _ _)
   | (with_reducible exact ih1 _ _ _ _ _ _ _ _ _ _ _)
   | (with_reducible exact ih2 _ _ _ _ _ _ _ _ _ _ _ _ _ _)
   | (with_reducible first | exact LeO.refl _ | exact LeO.none _ | refine LeO.ite ?_ ?_ | refine LeO.bind ?_ (fun _ => ?_))
  ·intro y0 y1 y2 y3 y4 y5 y6 y7 y8 y9 y10
   unfold shape_flood.l1
   repeat' first
   | (with_reducible exact ih0 _ _ _ _ _ _ _ _)
   | (with_reducible exact ih1 _ _ _ _ _ _ _ _ _ _ _)
   | (with_reducible exact ih2 _ _ _ _ _ _ _ _ _ _ _ _ _ _)
   | (with_reducible first | exact LeO.refl _ | exact LeO.none _ | refine LeO.ite ?_ ?_ | refine LeO.bind ?_ (fun _ => ?_))
  ·intro y0 y1 y2 y3 y4 y5 y6 y7 y8 y9 y10 y11 y12 y13
   unfold shape_flood.j2
   repeat' first
   | (with_reducible exact ih0 _ _ _ _ _ _ _ _)
   | (with_reducible exact ih1 _ _ _ _ _ _ _ _ _ _ _)
   | (with_reducible exact ih2 _ _ _ _ _ _ _ _ _ _ _ _ _ _)
   | (with_reducible first | exact LeO.refl _ | exact LeO.none _ | refine LeO.ite ?_ ?_ | refine LeO.bind ?_ (fun _ => ?_))
theorem shape_flood.mono : ∀ a0 a1 a2 a3 a4 a5 a6 k, LeO (shape_flood.f k a0 a1 a2 a3 a4 a5 a6) (shape_flood.f (k + 1) a0 a1 a2 a3 a4 a5 a6) := by
 intro a0 a1 a2 a3 a4 a5 a6 k
 obtain ⟨ih0, ih1, ih2⟩ := shape_flood.mono_l k
 unfold shape_flood.f
 repeat' first
   | (with_reducible exact ih0 _ _ _ _ _ _ _ _)
   | (with_reducible exact ih1 _ _ _ _ _ _ _ _ _ _ _)
   | (with_reducible exact ih2 _ _ _ _ _ _ _ _ _ _ _ _ _ _)
   | (with_reducible first | exact LeO.refl _ | exact LeO.none _ | refine LeO.ite ?_ ?_ | refine LeO.bind ?_ (fun _ => ?_))
def shape_flood.T10 : Bool × List (List Nat × List Nat) := (true, [([], []), ([], []), ([0, 1], [0, 1]), ([2], [2]), ([3], [3]), ([], []), ([5], [5]), ([4, 6], [4, 6]), ([], []), ([], []), ([8, 9], [8, 9]), ([10], [10]), ([11], [11]), ([], []), ([13], [13]), ([12, 14], [12, 14]), ([7, 15], [7, 15]), ([], []), ([17, 16, 0, 1, 2, 3, 4, 5, 6, 7, 8, 9, 10, 11, 12, 13, 14, 15, 16, 17], [16, 17])])
def shape_flood.B10 : List Nat := [0, 0, 3, 7, 15, 0, 32, 127, 0, 0, 768, 1792, 3840, 0, 8192, 32512, 65535, 0, 262143]
theorem shape_flood.tab10 : rtab .any (opsOf Try.f38 10) = shape_flood.T10 := by kernel_rfl
theorem shape_flood.bits10 : waitsOk shape_flood.T10.2 shape_flood.B10 = true := by kernel_rfl
set_option maxHeartbeats 8000000 in
set_option maxRecDepth 100000 in
theorem shape_flood.calls (k : Nat) (a0_0 : Int) (a0_1 : Int) (A0_2 : Option Addr) (c0_2 : Nat) (l0_2 : List Int) (P1_ : Nat → Prop) (u9000_ : Value) (l1 : List Bool) (a2_0 : Int) (a2_1 : Int) (A3 : Option Addr) (c3 : Nat) (l3 : List (S74)) (r1 : List (S74)) (r2 : List Bool) (w0 w : World) (hB : Below w0.heap.size w0 w) (hr0_2 : ∀ W_, Kept w W_ (fun k_ => P1_ k_) → Kd.C (Kd.int .u8) W_ A0_2 l0_2.length l0_2) (hc0_2 : l0_2.length ≤ c0_2) (ho1 : Kd.R Kd.bool 4 w w0.heap.size P1_ u9000_ l1) (hr3 : ∀ W_, Kept w W_ (fun k_ => P1_ k_) → Kd.C k74 W_ A3 l3.length l3) (hc3 : l3.length ≤ c3) (h : shape_flood.f k a0_0 a0_1 l0_2 l1 a2_0 a2_1 l3 = some (r1, r2)) :
  Calls Try.prog 38 #[.agg #[.int .i64 a0_0, .int .i64 a0_1, .slice A0_2 l0_2.length c0_2], u9000_, .agg #[.int .i64 a2_0, .int .i64 a2_1], .slice A3 l3.length c3] w fun e w' => ∃ v0_ : Value, e = .returned (v0_) ∧ Kd.R k74 74 w' w0.heap.size (fun k_ => (P1_ k_ ∨ w.heap.size ≤ k_)) v0_ r1 ∧ Kd.R Kd.bool 4 w' w0.heap.size (fun k_ => (P1_ k_ ∨ w.heap.size ≤ k_)) u9000_ r2 ∧ Below w0.heap.size w0 w' ∧ Kept w w' (fun k_ => P1_ k_) := by
 have hu24 := Try.underlying24
 have hu74 := Try.underlying74
 have HR0_2 := Aside0.mk hr0_2
 have HC0_2 := Aside0.mk hc0_2
 clear hr0_2 hc0_2
 have HO1 := Aside0.mk (show Kd.R Kd.bool 4 w w0.heap.size (fun k_ => (P1_ k_ ∨ w.heap.size ≤ k_)) u9000_ l1 from Kd.R_mono ho1 (fun k_ hk => (.inl hk)))
 have HR3 := Aside0.mk hr3
 have HC3 := Aside0.mk hc3
 clear hr3 hc3
 have HK := Aside0.mk (Kept.refl w (fun k_ => P1_ k_))
 have HW0 := Aside0.mk hB.size
 have HB := Aside0.mk hB
 clear hB
 have H := h
 unfold shape_flood.f at H
 clear h
 obtain ⟨ji5, hji5⟩ : ∃ j_ : Int, (wrap64 ((wrap64 (a2_1 * a0_0)) + a2_0)) = j_ := ⟨_, rfl⟩
 replace H : (if 0 ≤ (ji5) then (if (ji5) < (l0_2.length : Int) then (if (ji5) < (l1.length : Int) then (shape_flood.l0 k (l1.set ((ji5) : Int).toNat true) l3 (rd l0_2 (ji5)) (([(⟨a2_0, a2_1⟩ : S74)] : List (S74))) 0 a0_0 a0_1 l0_2) else (none)) else (none)) else (none)) = some (r1, r2) := by first | (rw [hji5] at H; exact H) | (simp only [hji5] at H ⊢; exact H)
 have hji5w : (IntKind.i64.wrap ((wrap64 (a2_1 * a0_0)) + a2_0)) = ji5 := (i64_w _).trans hji5
 by_cases c6 : 0 ≤ (ji5)
 ·rw [if_pos c6] at H
  have c6b0 := decide_eq_true c6
  clear c6
  by_cases c7 : (ji5) < (l0_2.length : Int)
  ·rw [if_pos c7] at H
   have c7b0 := decide_eq_true c7
   clear c7
   by_cases c8 : (ji5) < (l1.length : Int)
   ·rw [if_pos c8] at H
    have c8b0 := decide_eq_true c8
    clear c8
    obtain ⟨y157, hy_⟩ : ∃ y_ : List Bool, y_ = (l1.set ((ji5) : Int).toNat true) := ⟨_, rfl⟩
    replace H : (shape_flood.l0 k y157 l3 (rd l0_2 (ji5)) (([(⟨a2_0, a2_1⟩ : S74)] : List (S74))) 0 a0_0 a0_1 l0_2) = some (r1, r2) := rh
    have Ny157 := aE hy_
    clear hy_
    obtain ⟨y158, hy_⟩ : ∃ y_ : List (S74), y_ = (([(⟨a2_0, a2_1⟩ : S74)] : List (S74))) := ⟨_, rfl⟩
    replace H : (shape_flood.l0 k y157 l3 (rd l0_2 (ji5)) y158 0 a0_0 a0_1 l0_2) = some (r1, r2) := rh
    have Ny158 := aE hy_
    clear hy_
    have H' := Aside0.mk H
    clear H
    go_enter Try.func38, Try.ntmps38
    go_wp2_with (first | ((with_reducible refine gd 4 rfl ?_); refine bx 4 #[.int .i64 a0_0, .int .i64 a0_1, .slice A0_2 l0_2.length c0_2] 24 rfl rfl ?_; intro gb154 hg w10 hbox hb; have n_ := aC (Kd.R_below (rU HO1.out) hb) (aC (Kept.below (S := (fun k_ => P1_ k_)) (by repeat (first | (with_reducible first | exact HK.out | apply Kept.alloc | apply Kept.drewN | apply Kept.drew) | exact HK.out)) hb) (aC (bs hb) (aC hbox (aC ((by rw [hg]; exact (by first | exact HK.out.1 | exact (show Kept w _ (fun k_ => P1_ k_) from by repeat (first | (with_reducible first | exact HK.out | apply Kept.alloc | apply Kept.drewN | apply Kept.drew) | exact HK.out)).1) : w.heap.size ≤ gb154)) (aE ((by rw [hg]; exact bz : w0.heap.size ≤ gb154))))))); clear HO1 HK HB; obtain ⟨HO1, HK, HB, BK154, GW154, GE154⟩ := n_; clear hb hbox hg) | ((with_reducible refine gd 6 rfl ?_); refine bx 6 #[.int .i64 a2_0, .int .i64 a2_1] 74 rfl rfl ?_; intro gb155 hg w11 hbox hb; have n_ := aC (Kd.R_below (rU HO1.out) hb) (aC (blk_below (bU BK154.out) hb) (aC (Kept.below (S := (fun k_ => P1_ k_)) (by repeat (first | (with_reducible first | exact HK.out | apply Kept.alloc | apply Kept.drewN | apply Kept.drew | refine Kept.setCell ?_ (.inr GW154.out) _) | exact HK.out)) hb) (aC (bs hb) (aC hbox (aC ((by rw [hg]; exact (by first | exact HK.out.1 | exact (show Kept w _ (fun k_ => P1_ k_) from by repeat (first | (with_reducible first | exact HK.out | apply Kept.alloc | apply Kept.drewN | apply Kept.drew | refine Kept.setCell ?_ (.inr GW154.out) _) | exact HK.out)).1) : w.heap.size ≤ gb155)) (aC ((by rw [hg]; exact bz : w0.heap.size ≤ gb155)) (aC (gn hg (bU BK154.out)) (aE (gm hg (bU BK154.out)))))))))); clear HO1 BK154 HK HB; obtain ⟨HO1, BK154, HK, HB, BK155, GW155, GE155, NB154_155, NB155_154⟩ := n_; clear hb hbox hg; have hnb12 := NB154_155.out; have hnc12 := NB155_154.out; obtain ⟨hcz13_0, hcz13_1, hcz13_2, hfz13_0, hfz13_1, hfz13_2⟩ := cz3f BK154.out; obtain ⟨hcz14_0, hcz14_1, hfz14_0, hfz14_1⟩ := cz2f BK155.out; have p156 : 0 ≤ ((ji5) : Int) := dt; have q156 : (ji5) < (l0_2.length : Int) := dt; obtain ⟨ad156, e156, hx156_0⟩ := Kd.at_int (Kd.C_kept_now HR0_2.out HK.out) (ji5) p156 q156; cases e156; replace p156 := eq_true p156; replace q156 := eq_true q156; have p9 : 0 ≤ ((ji5) : Int) := dt; have q9 : ((ji5) : Int) < ((l1.length : Int) : Int) := dt; obtain ⟨go9, co9, eo9, gb9, gl9, cl9, HG9⟩ := Kd.R_form HO1.out (by omega); (first | cases eo9 | (injection eo9 with ea_ en_ ec_; (first | subst ea_ | (injection ea_ with ea_; subst ea_)); subst ec_; clear en_)); have GB9 := Aside0.mk gb9; have GG9 := Aside0.mk HG9; clear gb9 gl9 HG9; have HMgo9 := Aside0.mk (show (P1_ go9 ∨ w.heap.size ≤ go9) from (HO1.out.1 _ rfl)); obtain ⟨hx9_0, hf9_0⟩ := Kd.R_celln false HO1.out ((ji5) : Int) p9 q9; replace p9 := eq_true p9; replace q9 := eq_true q9; obtain ⟨hy15_, hz15_⟩ := Kd.R_celln false HO1.out ((ji5) : Int) (dt) (dt); have HP15 := Kd.R_putg HO1.out ((ji5) : Int) true) | ((with_reducible refine gate_store (t := 4) (p := 36) rfl ?_); refine store_event (t := 4) (p := 36) (v := ?vo_w16) (w1 := (w11.setCell ⟨go9, ((ji5) : Int).toNat, none⟩ (.bool true))) ?hg ?ho ?hn ?hr ?_; (case ho => rfl); (case hg => rfl); (case hn => rfl); (case hr => first | (go_simp; done) | (go_simp; rfl)); intro w16 hw; have hg : w11.grownBy w16 (some go9) := (by rw [hw]; exact HP15.2); have hp_ : Kd.R Kd.bool 4 w16 w0.heap.size (fun k_ => (P1_ k_ ∨ w.heap.size ≤ k_)) (.slice (some ⟨go9, 0, none⟩) l1.length co9) y157 := (by rw [hw, Ny157.out]; exact HP15.1); clear HP15; have n_ := aC hp_ (aC (blk_grown (bU BK154.out) hg (Kd.R_ne HO1.out BK154.out (by decide))) (aC (blk_grown (bU BK155.out) hg (Kd.R_ne HO1.out BK155.out (by decide))) (aC ((by rw [hw]; exact below_set (HB.out) GB9.out : Below w0.heap.size w0 w16)) (aE (Kept.of_grown (S := (fun k_ => P1_ k_)) hg (by repeat (first | (with_reducible first | exact HK.out | apply Kept.alloc | apply Kept.drewN | apply Kept.drew | refine Kept.setCell ?_ (.inr GW154.out) _ | refine Kept.setCell ?_ (.inr GW155.out) _) | exact HK.out)) (fun k_ e_ => (HO1.out.1 k_ e_))))))); clear HO1 BK154 BK155 HB HK; obtain ⟨HO1, BK154, BK155, HB, HK⟩ := n_; clear hg hw hp_; obtain ⟨hcz17_0, hcz17_1, hfz17_0, hfz17_1⟩ := cz2f BK155.out) | ((with_reducible refine gd 38 rfl ?_); refine Kd.R_lit k74 _ 74 ?hg (N := 38) ?hd (xs := ([(⟨a2_0, a2_1⟩ : S74)] : List (S74))) (inner := [.int .i64 a2_0, .int .i64 a2_1]) (ok := fun _ => True) (okp := fun _ => True) ?hr ?hp (fun _ hk => hk) trivial (Below.refl _ _) (Nat.le_refl _) (by simp) ?_; (case hd => rfl); (case hg => rfl); (case hr => first | (go_simp; done) | (go_simp; rfl)); (case hp => exact (Reps.c2 (show Kd.M k74 _ _ _ (⟨a2_0, a2_1⟩ : S74) [.int .i64 a2_0, .int .i64 a2_1] from (k74_mkM _ _ _ (⟨a2_0, a2_1⟩ : S74) )) (Reps.none _ _))); intro v159 w18 ho19 hb hg_ hnew_; clear hg_ hnew_; (first | rw [← Ny158.out] at ho19 | (simp only [Int.reduceToNat] at ho19; rw [← Ny158.out] at ho19)); have n_ := aC (Kd.R_below (rU HO1.out) hb) (aC (Kd.R_lower (Kd.R_newB (Kd.R_newM (M := fun k_ => (P1_ k_ ∨ w.heap.size ≤ k_)) ho19 (by first | exact HK.out.1 | exact (show Kept w _ (fun k_ => P1_ k_) from by repeat (first | (with_reducible first | exact HK.out | apply Kept.alloc | apply Kept.drewN | apply Kept.drew | refine Kept.setCell ?_ (.inr GW154.out) _ | refine Kept.setCell ?_ (.inr GW155.out) _) | exact HK.out)).1) (fun k_ h_ => .inr h_)) (bU BK155.out)) bz) (aC (blk_below (bU BK154.out) hb) (aC (blk_below (bU BK155.out) hb) (aC (Kept.below (S := (fun k_ => P1_ k_)) (by repeat (first | (with_reducible first | exact HK.out | apply Kept.alloc | apply Kept.drewN | apply Kept.drew | refine Kept.setCell ?_ (.inr GW154.out) _ | refine Kept.setCell ?_ (.inr GW155.out) _) | exact HK.out)) hb) (aE (bs hb)))))); clear HO1 BK154 BK155 HK HB; obtain ⟨HO1, HO160, BK154, BK155, HK, HB⟩ := n_; clear hb ho19))
    go_loopg [10, 11] k (fun kq v10 v11 w' => ∃ (x1_1 : List Bool) (x10_1 : List (S74)) (x11_1 : Int), v11 = .int .i64 x11_1 ∧ Aside0 (shape_flood.l0 kq x1_1 l3 (rd l0_2 (ji5)) x10_1 x11_1 a0_0 a0_1 l0_2 = some (r1, r2)) ∧ Aside0 (kq ≤ k) ∧ Aside0 (Kd.R Kd.bool 4 w' w0.heap.size (fun k_ => (P1_ k_ ∨ w.heap.size ≤ k_)) (.slice (some ⟨go9, 0, none⟩) l1.length co9) x1_1) ∧ Aside0 (Kd.R k74 74 w' w0.heap.size (fun k_ => (P1_ k_ ∨ w.heap.size ≤ k_) ∧ k_ ≠ gb155) v10 x10_1) ∧ Aside0 (w'.heap[gb154]? = some (.cells #[.int .i64 a0_0, .int .i64 a0_1, (.slice (some ad156) l0_2.length c0_2)] 24 (0, 0))) ∧ Aside0 (w'.heap[gb155]? = some (.cells #[.int .i64 a2_0, .int .i64 a2_1] 74 (0, 0))) ∧ Aside0 (Kept w w' (fun k_ => P1_ k_)) ∧ Aside0 (Below w0.heap.size w0 w'))
    case atStart => exact ⟨(y157), (y158), (0), rq, H', ⟨Nat.le_refl _⟩, ⟨rU HO1.out⟩, ⟨rU (Kd.R_mono HO160.out (fun _ hk => ⟨hk.1.1, hk.2⟩))⟩, ⟨by exact bU BK154.out⟩, ⟨by exact bU BK155.out⟩, ⟨by repeat (first | (with_reducible first | exact HK.out | apply Kept.alloc | apply Kept.drewN | apply Kept.drew | refine Kept.setCell ?_ (.inr GW154.out) _ | refine Kept.setCell ?_ (.inr GW155.out) _) | exact HK.out)⟩, ⟨bl⟩⟩
    case round =>
     clear H'
     try clear c3
     obtain ⟨x1_1, x10_1, x11_1, rfl, HA, HK1, HO_1, HO_10, BK154, BK155, HK, HB⟩ := hrel
     have hl1_1 := (Kd.R_reads' HO_1.out).1
     rw [hl1_1] at HO_1
     (try simp only [hl1_1])
     (try simp only [hl1_1] at BK154)
     (try simp only [hl1_1] at BK155)
     (try simp only [hl1_1] at HO_10)
     cases gk with
     | zero => exact absurd HA.out (by simp [shape_flood.l0])
     | succ k1 =>
      have H := HA.out
      clear HA
      simp only [shape_flood.l0] at H
      by_cases c20 : x11_1 < (x10_1.length : Int)
      ·rw [if_pos c20] at H
       have c20b0 := decide_eq_true c20
       (try (have c20b0_hl1_1 := c20b0; simp only [hl1_1] at c20b0_hl1_1))
       clear c20
       have H' := Aside0.mk H
       clear H
       obtain ⟨Ao21, co21, eo21⟩ := Kd.R_slice HO_10.out
       subst eo21
       go_wp2
       go_loopg [10, 47] k1 (fun kq v10 v47 w' => ∃ (x1_2 : List Bool) (x10_2 : List (S74)) (x47_2 : Int), v47 = .int .i64 x47_2 ∧ Aside0 (shape_flood.l1 kq x1_2 l3 (rd l0_2 (ji5)) x10_2 x11_1 l3 (l3.length : Int) x47_2 a0_0 a0_1 l0_2 = some (r1, r2)) ∧ Aside0 (kq ≤ k1) ∧ Aside0 (Kd.R Kd.bool 4 w' w0.heap.size (fun k_ => (P1_ k_ ∨ w.heap.size ≤ k_)) (.slice (some ⟨go9, 0, none⟩) x1_1.length co9) x1_2) ∧ Aside0 (Kd.R k74 74 w' w0.heap.size (fun k_ => (P1_ k_ ∨ w.heap.size ≤ k_) ∧ k_ ≠ gb155) v10 x10_2) ∧ Aside0 (w'.heap[gb154]? = some (.cells #[.int .i64 a0_0, .int .i64 a0_1, (.slice (some ad156) l0_2.length c0_2)] 24 (0, 0))) ∧ Aside0 (w'.heap[gb155]? = some (.cells #[.int .i64 a2_0, .int .i64 a2_1] 74 (0, 0))) ∧ Aside0 (Kept w w' (fun k_ => P1_ k_)) ∧ Aside0 (Below w0.heap.size w0 w'))
       case atStart => exact ⟨(x1_1), (x10_1), (0), rq, H', ⟨Nat.le_refl _⟩, ⟨by (try simp only [hl1_1]); (with_reducible repeat (first | apply Kd.R_alloc | apply Kd.R_drewN | apply Kd.R_drew)); exact HO_1.out⟩, ⟨by (try simp only [hl1_1]); (with_reducible repeat (first | apply Kd.R_alloc | apply Kd.R_drewN | apply Kd.R_drew)); exact HO_10.out⟩, ⟨by (try simp only [hl1_1]); exact bU BK154.out⟩, ⟨by (try simp only [hl1_1]); exact bU BK155.out⟩, ⟨by repeat (first | (with_reducible first | exact HK.out | apply Kept.alloc | apply Kept.drewN | apply Kept.drew | refine Kept.setCell ?_ (.inr GW154.out) _ | refine Kept.setCell ?_ (.inr GW155.out) _) | exact HK.out)⟩, ⟨bl⟩⟩
       case round =>
        clear H'
        try clear c3
        obtain ⟨x1_2, x10_2, x47_2, rfl, HA, HK2, HO_1, HO_10, BK154, BK155, HK, HB⟩ := hrel
        have hl1_2 := (Kd.R_reads' HO_1.out).1
        rw [hl1_2] at HO_1
        (try simp only [hl1_2])
        (try simp only [hl1_2] at BK154)
        (try simp only [hl1_2] at BK155)
        (try simp only [hl1_2] at HO_10)
        cases gk with
        | zero => exact absurd HA.out (by simp [shape_flood.l1])
        | succ k2 =>
         have H := HA.out
         clear HA
         simp only [shape_flood.l1] at H
         by_cases c22 : x47_2 < (l3.length : Int)
         ·rw [if_pos c22] at H
          have c22b0 := decide_eq_true c22
          (try (have c22b0_hl1_1 := c22b0; simp only [hl1_1] at c22b0_hl1_1))
          (try (have c22b0_hl1_2 := c22b0; simp only [hl1_2] at c22b0_hl1_2))
          clear c22
          by_cases c23 : 0 ≤ x47_2
          ·rw [if_pos c23] at H
           have c23b0 := decide_eq_true c23
           clear c23
           by_cases c24 : x47_2 < (l3.length : Int)
           ·rw [if_pos c24] at H
            have c24b0 := decide_eq_true c24
            (try (have c24b0_hl1_1 := c24b0; simp only [hl1_1] at c24b0_hl1_1))
            (try (have c24b0_hl1_2 := c24b0; simp only [hl1_2] at c24b0_hl1_2))
            clear c24
            by_cases c25 : 0 ≤ x11_1
            ·rw [if_pos c25] at H
             have c25b0 := decide_eq_true c25
             clear c25
             by_cases c26 : x11_1 < (x10_2.length : Int)
             ·rw [if_pos c26] at H
              have c26b0 := decide_eq_true c26
              (try (have c26b0_hl1_1 := c26b0; simp only [hl1_1] at c26b0_hl1_1))
              (try (have c26b0_hl1_2 := c26b0; simp only [hl1_2] at c26b0_hl1_2))
              clear c26
              have HC27 := Aside0.mk H
              clear H
              have p161 : 0 ≤ (x47_2 : Int) := dt
              have q161 : x47_2 < (l3.length : Int) := dt
              obtain ⟨ad161, e161, hx161_0, hx161_1⟩ := at_T74 (Kd.C_kept_now HR3.out HK.out) x47_2 p161 q161
              cases e161
              replace p161 := eq_true p161
              replace q161 := eq_true q161
              try go_wp2_with (first | ((with_reducible refine gd 13 rfl ?_); refine bx 13 #[.int .i64 0, .int .i64 0] 74 rfl rfl ?_; intro gb162 hg w28 hbox hb; have n_ := aC (Kd.R_below (rU HO_1.out) hb) (aC (Kd.R_below (Kd.R_elderB (rU HO_10.out) gb162 (Nat.le_of_eq hg.symm)) hb) (aC (blk_below (bU BK154.out) hb) (aC (blk_below (bU BK155.out) hb) (aC (Kept.below (S := (fun k_ => P1_ k_)) (by repeat (first | (with_reducible first | exact HK.out | apply Kept.alloc | apply Kept.drewN | apply Kept.drew | refine Kept.setCell ?_ (.inr GW154.out) _ | refine Kept.setCell ?_ (.inr GW155.out) _) | exact HK.out)) hb) (aC (bs hb) (aC hbox (aC ((by rw [hg]; exact (by first | exact HK.out.1 | exact (show Kept w _ (fun k_ => P1_ k_) from by repeat (first | (with_reducible first | exact HK.out | apply Kept.alloc | apply Kept.drewN | apply Kept.drew | refine Kept.setCell ?_ (.inr GW154.out) _ | refine Kept.setCell ?_ (.inr GW155.out) _) | exact HK.out)).1) : w.heap.size ≤ gb162)) (aC ((by rw [hg]; exact bz : w0.heap.size ≤ gb162)) (aC (gn hg (bU BK154.out)) (aC (gm hg (bU BK154.out)) (aC (gn hg (bU BK155.out)) (aE (gm hg (bU BK155.out)))))))))))))); clear HO_1 HO_10 BK154 BK155 HK HB; obtain ⟨HO_1, HO_10, BK154, BK155, HK, HB, BK162, GW162, GE162, NB154_162, NB162_154, NB155_162, NB162_155⟩ := n_; clear hb hbox hg; have hnb29 := NB162_154.out; have hnc29 := NB154_162.out; have hnb30 := NB162_155.out; have hnc30 := NB155_162.out; obtain ⟨hcz31_0, hcz31_1, hfz31_0, hfz31_1⟩ := cz2f BK162.out))
              have n0_ : Aside0 (Kd.R Kd.bool 4 ((w28.setCell ⟨gb162, 0, none⟩ (.int .i64 ((rd_T74 l3 x47_2).f0))).setCell ⟨gb162, 1, none⟩ (.int .i64 ((rd_T74 l3 x47_2).f1))) w0.heap.size (fun k_ => (P1_ k_ ∨ w.heap.size ≤ k_)) (.slice (some ⟨go9, 0, none⟩) x1_2.length co9) x1_2) := ⟨rU (Kd.R_mono (Kd.R_far (p := ⟨gb162, 1, none⟩) (Kd.R_far (p := ⟨gb162, 0, none⟩) (Kd.R_types HO_1.out BK162.out (by decide)) (fun _ hk => hk.2) (.int .i64 ((rd_T74 l3 x47_2).f0))) (fun _ hk => hk.2) (.int .i64 ((rd_T74 l3 x47_2).f1))) (fun _ hk => hk.1))⟩
              have n1_ : Aside0 (Kd.R k74 74 ((w28.setCell ⟨gb162, 0, none⟩ (.int .i64 ((rd_T74 l3 x47_2).f0))).setCell ⟨gb162, 1, none⟩ (.int .i64 ((rd_T74 l3 x47_2).f1))) w0.heap.size (fun k_ => (P1_ k_ ∨ w.heap.size ≤ k_) ∧ k_ ≠ gb155 ∧ k_ ≠ gb162) u10 x10_2) := ⟨rU (Kd.R_mono (Kd.R_far (p := ⟨gb162, 1, none⟩) (Kd.R_far (p := ⟨gb162, 0, none⟩) (Kd.R_mono HO_10.out (fun k_ hk => (⟨hk, hk.2⟩ : _ ∧ k_ ≠ gb162))) (fun _ hk => hk.2) (.int .i64 ((rd_T74 l3 x47_2).f0))) (fun _ hk => hk.2) (.int .i64 ((rd_T74 l3 x47_2).f1))) (fun _ hk => ⟨hk.1.1.1, ⟨hk.1.1.2, hk.1.2⟩⟩))⟩
              have n2_ : Aside0 (((w28.setCell ⟨gb162, 0, none⟩ (.int .i64 ((rd_T74 l3 x47_2).f0))).setCell ⟨gb162, 1, none⟩ (.int .i64 ((rd_T74 l3 x47_2).f1))).heap[gb154]? = some (.cells #[.int .i64 a0_0, .int .i64 a0_1, .slice (some ad156) l0_2.length c0_2] 24 (0, 0))) := ⟨by refine bF ?_ ?_; exact NB154_162.out; refine bF ?_ ?_; exact NB154_162.out; exact bU BK154.out⟩
              have n3_ : Aside0 (((w28.setCell ⟨gb162, 0, none⟩ (.int .i64 ((rd_T74 l3 x47_2).f0))).setCell ⟨gb162, 1, none⟩ (.int .i64 ((rd_T74 l3 x47_2).f1))).heap[gb155]? = some (.cells #[.int .i64 a2_0, .int .i64 a2_1] 74 (0, 0))) := ⟨by refine bF ?_ ?_; exact NB155_162.out; refine bF ?_ ?_; exact NB155_162.out; exact bU BK155.out⟩
              have n4_ : Aside0 (((w28.setCell ⟨gb162, 0, none⟩ (.int .i64 ((rd_T74 l3 x47_2).f0))).setCell ⟨gb162, 1, none⟩ (.int .i64 ((rd_T74 l3 x47_2).f1))).heap[gb162]? = some (.cells #[.int .i64 ((rd_T74 l3 x47_2).f0), .int .i64 ((rd_T74 l3 x47_2).f1)] 74 (0, 0))) := ⟨by (with_reducible repeat (first | refine blk_drewN ?_ _ | refine blk_drew ?_ | refine blk_alloc ?_ _)); refine blk_put (cs := #[.int .i64 ((rd_T74 l3 x47_2).f0), .int .i64 0]) ?_ 1 _ rfl; (with_reducible repeat (first | refine blk_drewN ?_ _ | refine blk_drew ?_ | refine blk_alloc ?_ _)); refine blk_put (cs := #[.int .i64 0, .int .i64 0]) ?_ 0 _ rfl; exact bU BK162.out⟩
              have n5_ : Aside0 (Kept w ((w28.setCell ⟨gb162, 0, none⟩ (.int .i64 ((rd_T74 l3 x47_2).f0))).setCell ⟨gb162, 1, none⟩ (.int .i64 ((rd_T74 l3 x47_2).f1))) (fun k_ => P1_ k_)) := ⟨by repeat (first | (with_reducible first | exact HK.out | apply Kept.alloc | apply Kept.drewN | apply Kept.drew | refine Kept.setCell ?_ (.inr GW154.out) _ | refine Kept.setCell ?_ (.inr GW155.out) _ | refine Kept.setCell ?_ (.inr GW162.out) _) | exact HK.out)⟩
              have n6_ : Aside0 (Below w0.heap.size w0 ((w28.setCell ⟨gb162, 0, none⟩ (.int .i64 ((rd_T74 l3 x47_2).f0))).setCell ⟨gb162, 1, none⟩ (.int .i64 ((rd_T74 l3 x47_2).f1)))) := ⟨bl⟩
              (try clear HO_1)
              (try clear HO_10)
              (try clear BK154)
              (try clear BK155)
              (try clear BK162)
              (try clear HK)
              (try clear HB)
              generalize ((w28.setCell ⟨gb162, 0, none⟩ (.int .i64 ((rd_T74 l3 x47_2).f0))).setCell ⟨gb162, 1, none⟩ (.int .i64 ((rd_T74 l3 x47_2).f1))) = w32 at n0_ n1_ n2_ n3_ n4_ n5_ n6_ ⊢
              have HO_1 := n0_
              have HO_10 := n1_
              have BK154 := n2_
              have BK155 := n3_
              have BK162 := n4_
              have HK := n5_
              have HB := n6_
              clear n0_ n1_ n2_ n3_ n4_ n5_ n6_
              have n_ := aC (Kd.R_drew HO_1.out) (aC (Kd.R_drew HO_10.out) (aC (blk_drew BK154.out) (aC (blk_drew BK155.out) (aC (blk_drew BK162.out) (aC (Kept.drew HK.out) (aE (below_drew1 HB.out)))))))
              clear HO_1 HO_10 BK154 BK155 BK162 HK HB
              obtain ⟨HO_1, HO_10, BK154, BK155, BK162, HK, HB⟩ := n_
              obtain ⟨Ao34, co34, eo34⟩ := Kd.R_slice HO_10.out
              (first | subst eo34 | (injection eo34 with f1_ f2_ f3_; have f4_ := f1_.symm; have f5_ := f3_.symm; clear f1_ f2_ f3_; subst f4_; subst f5_))
              have p163 : 0 ≤ (x11_1 : Int) := dt
              have q163 : x11_1 < (x10_2.length : Int) := dt
              obtain ⟨ad163, e163, hx163_0, hx163_1⟩ := at_T74 (Kd.R_reads' HO_10.out).2.2 x11_1 p163 q163
              cases e163
              replace p163 := eq_true p163
              replace q163 := eq_true q163
              have p164 : 0 ≤ (x11_1 : Int) := dt
              have q164 : x11_1 < (x10_2.length : Int) := dt
              obtain ⟨ad164, e164, hx164_0, hx164_1⟩ := at_T74 (Kd.R_reads' HO_10.out).2.2 x11_1 p164 q164
              obtain rfl : ad163 = ad164 := (by injection e164)
              replace p164 := eq_true p164
              replace q164 := eq_true q164
              refine st 19 (fun w' => w'.cell? ⟨gb162, 0, none⟩ = some (.int .i64 ((rd_T74 l3 x47_2).f0)) ∧ w'.cell? ⟨gb162, 1, none⟩ = some (.int .i64 ((rd_T74 l3 x47_2).f1)) ∧ w'.cell? (ad163.add ((x11_1).toNat * 2)) = some (.int .i64 ((rd_T74 x10_2 x11_1).f0)) ∧ w'.cell? ⟨(ad163.add ((x11_1).toNat * 2)).block, (ad163.add ((x11_1).toNat * 2)).off + 1, none⟩ = some (.int .i64 ((rd_T74 x10_2 x11_1).f1)) ∧ w'.cell? (ad163.add ((x11_1).toNat * 2)) = some (.int .i64 ((rd_T74 x10_2 x11_1).f0)) ∧ w'.cell? ⟨(ad163.add ((x11_1).toNat * 2)).block, (ad163.add ((x11_1).toNat * 2)).off + 1, none⟩ = some (.int .i64 ((rd_T74 x10_2 x11_1).f1))) [] (bv 19 0) shape_flood.tab10 shape_flood.bits10 ⟨kc0 BK162.out, kc1 BK162.out, hx163_0, hx163_1, hx164_0, hx164_1⟩ (fun hHeld HT_ HW_ => ?_)
              generalize w32.drew = w33 at HO_1 HO_10 BK154 BK155 BK162 HK HB hx163_0 hx163_1 hx164_0 hx164_1 hHeld ⊢
              refine pu 0 51 (bv 19 1) HT_ rfl rfl ?_
              refine pu 1 52 (bv 19 3) HT_ rfl rfl ?_
              refine pu 2 53 (bv 19 7) HT_ rfl rfl ?_
              refine pu 3 54 (bv 19 15) HT_ rfl rfl ?_
              refine pu 5 56 (bv 19 47) HT_ rfl rfl ?_
              refine pu 8 59 (bv 19 303) HT_ rfl rfl ?_
              refine pu 9 60 (bv 19 815) HT_ rfl rfl ?_
              refine pu 10 61 (bv 19 1839) HT_ rfl rfl ?_
              refine pu 11 62 (bv 19 3887) HT_ rfl rfl ?_
              refine pu 13 64 (bv 19 12079) HT_ rfl rfl ?_
              refine tk 4 55 (bv 19 12095) HT_ HW_ hHeld rfl rfl (by rintro w' ⟨s0, s1, s2, s3, s4, s5⟩; exact yl) ?_
              refine tk 6 57 (bv 19 12159) HT_ HW_ hHeld rfl rfl (by rintro w' ⟨s0, s1, s2, s3, s4, s5⟩; exact yl) ?_
              refine pu 7 58 (bv 19 12287) HT_ rfl rfl ?_
              refine tk 12 63 (bv 19 16383) HT_ HW_ hHeld rfl rfl (by rintro w' ⟨s0, s1, s2, s3, s4, s5⟩; exact yl) ?_
              refine tk 14 65 (bv 19 32767) HT_ HW_ hHeld rfl rfl (by rintro w' ⟨s0, s1, s2, s3, s4, s5⟩; exact yl) ?_
              refine pu 15 66 (bv 19 65535) HT_ rfl rfl ?_
              refine pu 16 67 (bv 19 131071) HT_ rfl rfl ?_
              refine one_ (i := 17) (N := some 14) (bv 19 262143) rfl rfl (one_of HT_.out (by kernel_rfl)) (by decide) (fun K hK => ?_)
              refine box_step ?hg (N := 14) ?hd (cs := #[.int .i64 0, .int .i64 0]) (t := 74) ?hr ?_; (case hd => rfl); (case hg => rfl); (case hr => first | (go_simp; done) | (go_simp; rfl))
              intro gb165 hg w35 hbox hb
              have HS2_ := (hb.cell (World.block_lt_of_cell? _ _ (hHeld.2.2.1))).trans (hHeld.2.2.1)
              have HS3_ := (hb.cell (World.block_lt_of_cell? _ _ (hHeld.2.2.2.1))).trans (hHeld.2.2.2.1)
              have HS4_ := (hb.cell (World.block_lt_of_cell? _ _ (hHeld.2.2.2.2.1))).trans (hHeld.2.2.2.2.1)
              have HS5_ := (hb.cell (World.block_lt_of_cell? _ _ (hHeld.2.2.2.2.2))).trans (hHeld.2.2.2.2.2)
              have n_ := aC (Kd.R_below (rU HO_1.out) hb) (aC (Kd.R_below (Kd.R_elderB (rU HO_10.out) gb165 (Nat.le_of_eq hg.symm)) hb) (aC (blk_below (bU BK154.out) hb) (aC (blk_below (bU BK155.out) hb) (aC (blk_below (g := gb162) (o := .cells #[.int .i64 ((rd_T74 l3 x47_2).f0), .int .i64 ((rd_T74 l3 x47_2).f1)] 74 (0, 0)) (bU BK162.out) hb) (aC (Kept.below (S := (fun k_ => P1_ k_)) (by repeat (first | (with_reducible first | exact HK.out | apply Kept.alloc | apply Kept.drewN | apply Kept.drew | refine Kept.setCell ?_ (.inr GW154.out) _ | refine Kept.setCell ?_ (.inr GW155.out) _ | refine Kept.setCell ?_ (.inr GW162.out) _) | exact HK.out)) hb) (aC (bs hb) (aC hbox (aC ((by rw [hg]; exact (by first | exact HK.out.1 | exact (show Kept w _ (fun k_ => P1_ k_) from by repeat (first | (with_reducible first | exact HK.out | apply Kept.alloc | apply Kept.drewN | apply Kept.drew | refine Kept.setCell ?_ (.inr GW154.out) _ | refine Kept.setCell ?_ (.inr GW155.out) _ | refine Kept.setCell ?_ (.inr GW162.out) _) | exact HK.out)).1) : w.heap.size ≤ gb165)) (aC ((by rw [hg]; exact bz : w0.heap.size ≤ gb165)) (aC (gn hg (bU BK154.out)) (aC (gm hg (bU BK154.out)) (aC (gn hg (bU BK155.out)) (aC (gm hg (bU BK155.out)) (aC ((by rw [hg]; exact Nat.ne_of_lt (blk_lt (g := gb162) (o := .cells #[.int .i64 ((rd_T74 l3 x47_2).f0), .int .i64 ((rd_T74 l3 x47_2).f1)] 74 (0, 0)) (bU BK162.out)) : gb162 ≠ gb165)) (aE ((by rw [hg]; exact Nat.ne_of_gt (blk_lt (g := gb162) (o := .cells #[.int .i64 ((rd_T74 l3 x47_2).f0), .int .i64 ((rd_T74 l3 x47_2).f1)] 74 (0, 0)) (bU BK162.out)) : gb165 ≠ gb162)))))))))))))))))
              clear HO_1 HO_10 BK154 BK155 BK162 HK HB
              obtain ⟨HO_1, HO_10, BK154, BK155, BK162, HK, HB, BK165, GW165, GE165, NB154_165, NB165_154, NB155_165, NB165_155, NB162_165, NB165_162⟩ := n_
              clear hb hbox hg
              refine hK.out _ _ ⟨kc0 BK162.out, kc1 BK162.out, HS2_, HS3_, HS4_, HS5_⟩ (fun hHeld => ?_)
              clear hK K
              refine nm (some 14) ?_
              refine one_ (i := 18) (N := none) (bv 19 524287) rfl rfl (one_of HT_.out (by kernel_rfl)) (by decide) (fun K hK => ?_)
              have hs36 : w35.cell? ⟨gb165, 0, none⟩ = some (.int .i64 0) := (blk_cell BK165.out 0).trans rfl
              have hfs36 := blk_frozen BK165.out 0
              have hns36_0 := NB154_165.out
              have hns36_1 := NB155_165.out
              have hns36_2 := NB162_165.out
              have hms36_0 := NB165_154.out
              have hms36_1 := NB165_155.out
              have hms36_2 := NB165_162.out
              have hs37 : w35.cell? ⟨gb165, 1, none⟩ = some (.int .i64 0) := (blk_cell BK165.out 1).trans rfl
              have hfs37 := blk_frozen BK165.out 1
              have hns37_0 := NB154_165.out
              have hns37_1 := NB155_165.out
              have hns37_2 := NB162_165.out
              have hms37_0 := NB165_154.out
              have hms37_1 := NB165_155.out
              have hms37_2 := NB165_162.out
              refine skip_ (w1 := ?_) (by rfl) rfl ?_ ?_
              rotate_left
              ·go_simp
               rfl
              refine hK.out _ _ ⟨((cell_far (p := ⟨gb165, _, none⟩) NB162_165.out _).trans (((cell_far (p := ⟨gb165, _, none⟩) NB162_165.out _).trans (hHeld.1)))), ((cell_far (p := ⟨gb165, _, none⟩) NB162_165.out _).trans (((cell_far (p := ⟨gb165, _, none⟩) NB162_165.out _).trans (hHeld.2.1)))), ((cell_far (p := ⟨gb165, _, none⟩) (by first | exact Kd.own_blk (Kd.R_away HO_10.out (fun _ hk => hk.2)) | (rw [add_block]; exact Kd.own_blk (Kd.R_away HO_10.out (fun _ hk => hk.2))) | (show (Addr.add _ _).block ≠ _; rw [add_block]; exact Kd.own_blk (Kd.R_away HO_10.out (fun _ hk => hk.2))) | (dsimp only; exact Kd.own_blk (Kd.R_away HO_10.out (fun _ hk => hk.2)))) _).trans (((cell_far (p := ⟨gb165, _, none⟩) (by first | exact Kd.own_blk (Kd.R_away HO_10.out (fun _ hk => hk.2)) | (rw [add_block]; exact Kd.own_blk (Kd.R_away HO_10.out (fun _ hk => hk.2))) | (show (Addr.add _ _).block ≠ _; rw [add_block]; exact Kd.own_blk (Kd.R_away HO_10.out (fun _ hk => hk.2))) | (dsimp only; exact Kd.own_blk (Kd.R_away HO_10.out (fun _ hk => hk.2)))) _).trans (hHeld.2.2.1)))), ((cell_far (p := ⟨gb165, _, none⟩) (by first | exact Kd.own_blk (Kd.R_away HO_10.out (fun _ hk => hk.2)) | (rw [add_block]; exact Kd.own_blk (Kd.R_away HO_10.out (fun _ hk => hk.2))) | (show (Addr.add _ _).block ≠ _; rw [add_block]; exact Kd.own_blk (Kd.R_away HO_10.out (fun _ hk => hk.2))) | (dsimp only; exact Kd.own_blk (Kd.R_away HO_10.out (fun _ hk => hk.2)))) _).trans (((cell_far (p := ⟨gb165, _, none⟩) (by first | exact Kd.own_blk (Kd.R_away HO_10.out (fun _ hk => hk.2)) | (rw [add_block]; exact Kd.own_blk (Kd.R_away HO_10.out (fun _ hk => hk.2))) | (show (Addr.add _ _).block ≠ _; rw [add_block]; exact Kd.own_blk (Kd.R_away HO_10.out (fun _ hk => hk.2))) | (dsimp only; exact Kd.own_blk (Kd.R_away HO_10.out (fun _ hk => hk.2)))) _).trans (hHeld.2.2.2.1)))), ((cell_far (p := ⟨gb165, _, none⟩) (by first | exact Kd.own_blk (Kd.R_away HO_10.out (fun _ hk => hk.2)) | (rw [add_block]; exact Kd.own_blk (Kd.R_away HO_10.out (fun _ hk => hk.2))) | (show (Addr.add _ _).block ≠ _; rw [add_block]; exact Kd.own_blk (Kd.R_away HO_10.out (fun _ hk => hk.2))) | (dsimp only; exact Kd.own_blk (Kd.R_away HO_10.out (fun _ hk => hk.2)))) _).trans (((cell_far (p := ⟨gb165, _, none⟩) (by first | exact Kd.own_blk (Kd.R_away HO_10.out (fun _ hk => hk.2)) | (rw [add_block]; exact Kd.own_blk (Kd.R_away HO_10.out (fun _ hk => hk.2))) | (show (Addr.add _ _).block ≠ _; rw [add_block]; exact Kd.own_blk (Kd.R_away HO_10.out (fun _ hk => hk.2))) | (dsimp only; exact Kd.own_blk (Kd.R_away HO_10.out (fun _ hk => hk.2)))) _).trans (hHeld.2.2.2.2.1)))), ((cell_far (p := ⟨gb165, _, none⟩) (by first | exact Kd.own_blk (Kd.R_away HO_10.out (fun _ hk => hk.2)) | (rw [add_block]; exact Kd.own_blk (Kd.R_away HO_10.out (fun _ hk => hk.2))) | (show (Addr.add _ _).block ≠ _; rw [add_block]; exact Kd.own_blk (Kd.R_away HO_10.out (fun _ hk => hk.2))) | (dsimp only; exact Kd.own_blk (Kd.R_away HO_10.out (fun _ hk => hk.2)))) _).trans (((cell_far (p := ⟨gb165, _, none⟩) (by first | exact Kd.own_blk (Kd.R_away HO_10.out (fun _ hk => hk.2)) | (rw [add_block]; exact Kd.own_blk (Kd.R_away HO_10.out (fun _ hk => hk.2))) | (show (Addr.add _ _).block ≠ _; rw [add_block]; exact Kd.own_blk (Kd.R_away HO_10.out (fun _ hk => hk.2))) | (dsimp only; exact Kd.own_blk (Kd.R_away HO_10.out (fun _ hk => hk.2)))) _).trans (hHeld.2.2.2.2.2))))⟩ (fun hHeld => ?_)
              clear hK K
              refine done_ (done_of HT_.out (by kernel_rfl)) ?_
              go_upto_region 11 with (fail)
              go_cut [118] (fun v118 wc => ∃ (kq : Nat) (x118_26 : Bool), v118 = .bool x118_26 ∧ Aside0 (shape_flood.j2 kq x1_2 l3 (rd l0_2 (ji5)) x10_2 x11_1 l3 (l3.length : Int) x47_2 x118_26 a0_0 a0_1 l0_2 (wrap64 (((rd_T74 x10_2 x11_1).f0) + ((rd_T74 l3 x47_2).f0))) (wrap64 (((rd_T74 x10_2 x11_1).f1) + ((rd_T74 l3 x47_2).f1))) = some (r1, r2)) ∧ Aside0 (kq ≤ k2) ∧ Aside0 (Kd.R Kd.bool 4 wc w0.heap.size (fun k_ => (P1_ k_ ∨ w.heap.size ≤ k_)) (.slice (some ⟨go9, 0, none⟩) x1_2.length co9) x1_2) ∧ Aside0 (Kd.R k74 74 wc w0.heap.size (fun k_ => (P1_ k_ ∨ w.heap.size ≤ k_) ∧ k_ ≠ gb155 ∧ k_ ≠ gb162 ∧ k_ ≠ gb165) (.slice (some ad163) x10_2.length co34) x10_2) ∧ Aside0 (wc.heap[gb154]? = some (.cells #[.int .i64 a0_0, .int .i64 a0_1, (.slice (some ad156) l0_2.length c0_2)] 24 (0, 0))) ∧ Aside0 (wc.heap[gb155]? = some (.cells #[.int .i64 a2_0, .int .i64 a2_1] 74 (0, 0))) ∧ Aside0 (wc.heap[gb162]? = some (.cells #[.int .i64 ((rd_T74 l3 x47_2).f0), .int .i64 ((rd_T74 l3 x47_2).f1)] 74 (0, 0))) ∧ Aside0 (wc.heap[gb165]? = some (.cells #[.int .i64 (wrap64 (((rd_T74 x10_2 x11_1).f0) + ((rd_T74 l3 x47_2).f0))), .int .i64 (wrap64 (((rd_T74 x10_2 x11_1).f1) + ((rd_T74 l3 x47_2).f1)))] 74 (0, 0))) ∧ Aside0 (Kept w wc (fun k_ => P1_ k_)) ∧ Aside0 (Below w0.heap.size w0 wc))
              case first =>
               have H := HC27.out
               clear HC27
               rcases iL H with H1 | H1 <;> clear H <;> obtain ⟨H, c38b0⟩ := H1
               ·(first | rw [c38b0] | (simp only [i64_w, i32_w]; rw [c38b0]) | skip)
                have H' := Aside0.mk H
                clear H
                have hnb39 := NB165_154.out
                have hnc39 := NB154_165.out
                have hnb40 := NB165_155.out
                have hnc40 := NB155_165.out
                have hnb41 := NB165_162.out
                have hnc41 := NB162_165.out
                obtain ⟨hcz42_0, hcz42_1, hfz42_0, hfz42_1⟩ := cz2f BK165.out
                go_wp2
                go_meet
                case rel => exact ⟨_, (true), rq, H', ⟨by have := HK1.out; have := HK2.out; first | omega | exact Nat.le_refl _⟩, ⟨by (try simp only [hl1_1]); (try simp only [hl1_2]); (with_reducible repeat (first | apply Kd.R_alloc | apply Kd.R_drewN | apply Kd.R_drew)); exact Kd.R_mono (Kd.R_far (p := ⟨gb165, 1, none⟩) (Kd.R_far (p := ⟨gb165, 0, none⟩) (Kd.R_types HO_1.out BK165.out (by decide)) (fun _ hk => hk.2) (.int .i64 (wrap64 (((rd_T74 x10_2 x11_1).f0) + ((rd_T74 l3 x47_2).f0))))) (fun _ hk => hk.2) (.int .i64 (wrap64 (((rd_T74 x10_2 x11_1).f1) + ((rd_T74 l3 x47_2).f1))))) (fun _ hk => hk.1)⟩, ⟨by (try simp only [hl1_1]); (try simp only [hl1_2]); (with_reducible repeat (first | apply Kd.R_alloc | apply Kd.R_drewN | apply Kd.R_drew)); exact Kd.R_mono (Kd.R_far (p := ⟨gb165, 1, none⟩) (Kd.R_far (p := ⟨gb165, 0, none⟩) (Kd.R_mono HO_10.out (fun k_ hk => (⟨hk, hk.2⟩ : _ ∧ k_ ≠ gb165))) (fun _ hk => hk.2) (.int .i64 (wrap64 (((rd_T74 x10_2 x11_1).f0) + ((rd_T74 l3 x47_2).f0))))) (fun _ hk => hk.2) (.int .i64 (wrap64 (((rd_T74 x10_2 x11_1).f1) + ((rd_T74 l3 x47_2).f1))))) (fun _ hk => ⟨hk.1.1.1, ⟨hk.1.1.2.1, ⟨hk.1.1.2.2, hk.1.2⟩⟩⟩)⟩, ⟨by (try simp only [hl1_1]); (try simp only [hl1_2]); refine bF ?_ ?_; exact NB154_165.out; refine bF ?_ ?_; exact NB154_165.out; exact bU BK154.out⟩, ⟨by (try simp only [hl1_1]); (try simp only [hl1_2]); refine bF ?_ ?_; exact NB155_165.out; refine bF ?_ ?_; exact NB155_165.out; exact bU BK155.out⟩, ⟨by (try simp only [hl1_1]); (try simp only [hl1_2]); refine bF ?_ ?_; exact NB162_165.out; refine bF ?_ ?_; exact NB162_165.out; exact bU BK162.out⟩, ⟨by (try simp only [hl1_1]); (try simp only [hl1_2]); (with_reducible repeat (first | refine blk_drewN ?_ _ | refine blk_drew ?_ | refine blk_alloc ?_ _)); refine blk_put (cs := #[.int .i64 (wrap64 (((rd_T74 x10_2 x11_1).f0) + ((rd_T74 l3 x47_2).f0))), .int .i64 0]) ?_ 1 _ rfl; (with_reducible repeat (first | refine blk_drewN ?_ _ | refine blk_drew ?_ | refine blk_alloc ?_ _)); refine blk_put (cs := #[.int .i64 0, .int .i64 0]) ?_ 0 _ rfl; exact bU BK165.out⟩, ⟨by repeat (first | (with_reducible first | exact HK.out | apply Kept.alloc | apply Kept.drewN | apply Kept.drew | refine Kept.setCell ?_ (.inr GW154.out) _ | refine Kept.setCell ?_ (.inr GW155.out) _ | refine Kept.setCell ?_ (.inr GW162.out) _ | refine Kept.setCell ?_ (.inr GW165.out) _) | exact HK.out)⟩, ⟨bl⟩⟩
               ·(first | rw [c38b0] | (simp only [i64_w, i32_w]; rw [c38b0]) | skip)
                rcases iL H with H1 | H1 <;> clear H <;> obtain ⟨H, c43b0⟩ := H1
                ·have H' := Aside0.mk H
                 clear H
                 have hnb44 := NB165_154.out
                 have hnc44 := NB154_165.out
                 have hnb45 := NB165_155.out
                 have hnc45 := NB155_165.out
                 have hnb46 := NB165_162.out
                 have hnc46 := NB162_165.out
                 obtain ⟨hcz47_0, hcz47_1, hfz47_0, hfz47_1⟩ := cz2f BK165.out
                 go_wp2
                 go_meet
                 case rel => exact ⟨_, (true), rq, H', ⟨by have := HK1.out; have := HK2.out; first | omega | exact Nat.le_refl _⟩, ⟨by (try simp only [hl1_1]); (try simp only [hl1_2]); (with_reducible repeat (first | apply Kd.R_alloc | apply Kd.R_drewN | apply Kd.R_drew)); exact Kd.R_mono (Kd.R_far (p := ⟨gb165, 1, none⟩) (Kd.R_far (p := ⟨gb165, 0, none⟩) (Kd.R_types HO_1.out BK165.out (by decide)) (fun _ hk => hk.2) (.int .i64 (wrap64 (((rd_T74 x10_2 x11_1).f0) + ((rd_T74 l3 x47_2).f0))))) (fun _ hk => hk.2) (.int .i64 (wrap64 (((rd_T74 x10_2 x11_1).f1) + ((rd_T74 l3 x47_2).f1))))) (fun _ hk => hk.1)⟩, ⟨by (try simp only [hl1_1]); (try simp only [hl1_2]); (with_reducible repeat (first | apply Kd.R_alloc | apply Kd.R_drewN | apply Kd.R_drew)); exact Kd.R_mono (Kd.R_far (p := ⟨gb165, 1, none⟩) (Kd.R_far (p := ⟨gb165, 0, none⟩) (Kd.R_mono HO_10.out (fun k_ hk => (⟨hk, hk.2⟩ : _ ∧ k_ ≠ gb165))) (fun _ hk => hk.2) (.int .i64 (wrap64 (((rd_T74 x10_2 x11_1).f0) + ((rd_T74 l3 x47_2).f0))))) (fun _ hk => hk.2) (.int .i64 (wrap64 (((rd_T74 x10_2 x11_1).f1) + ((rd_T74 l3 x47_2).f1))))) (fun _ hk => ⟨hk.1.1.1, ⟨hk.1.1.2.1, ⟨hk.1.1.2.2, hk.1.2⟩⟩⟩)⟩, ⟨by (try simp only [hl1_1]); (try simp only [hl1_2]); refine bF ?_ ?_; exact NB154_165.out; refine bF ?_ ?_; exact NB154_165.out; exact bU BK154.out⟩, ⟨by (try simp only [hl1_1]); (try simp only [hl1_2]); refine bF ?_ ?_; exact NB155_165.out; refine bF ?_ ?_; exact NB155_165.out; exact bU BK155.out⟩, ⟨by (try simp only [hl1_1]); (try simp only [hl1_2]); refine bF ?_ ?_; exact NB162_165.out; refine bF ?_ ?_; exact NB162_165.out; exact bU BK162.out⟩, ⟨by (try simp only [hl1_1]); (try simp only [hl1_2]); (with_reducible repeat (first | refine blk_drewN ?_ _ | refine blk_drew ?_ | refine blk_alloc ?_ _)); refine blk_put (cs := #[.int .i64 (wrap64 (((rd_T74 x10_2 x11_1).f0) + ((rd_T74 l3 x47_2).f0))), .int .i64 0]) ?_ 1 _ rfl; (with_reducible repeat (first | refine blk_drewN ?_ _ | refine blk_drew ?_ | refine blk_alloc ?_ _)); refine blk_put (cs := #[.int .i64 0, .int .i64 0]) ?_ 0 _ rfl; exact bU BK165.out⟩, ⟨by repeat (first | (with_reducible first | exact HK.out | apply Kept.alloc | apply Kept.drewN | apply Kept.drew | refine Kept.setCell ?_ (.inr GW154.out) _ | refine Kept.setCell ?_ (.inr GW155.out) _ | refine Kept.setCell ?_ (.inr GW162.out) _ | refine Kept.setCell ?_ (.inr GW165.out) _) | exact HK.out)⟩, ⟨bl⟩⟩
                ·rcases iL H with H1 | H1 <;> clear H <;> obtain ⟨H, c48b0⟩ := H1
                 ·have H' := Aside0.mk H
                  clear H
                  have hnb49 := NB165_154.out
                  have hnc49 := NB154_165.out
                  have hnb50 := NB165_155.out
                  have hnc50 := NB155_165.out
                  have hnb51 := NB165_162.out
                  have hnc51 := NB162_165.out
                  obtain ⟨hcz52_0, hcz52_1, hfz52_0, hfz52_1⟩ := cz2f BK165.out
                  have hnb53 := NB154_155.out
                  have hnc53 := NB155_154.out
                  have hnb54 := NB154_162.out
                  have hnc54 := NB162_154.out
                  obtain ⟨hcz55_0, hcz55_1, hcz55_2, hfz55_0, hfz55_1, hfz55_2⟩ := cz3f BK154.out
                  go_wp2
                  go_meet
                  case rel => exact ⟨_, (true), rq, H', ⟨by have := HK1.out; have := HK2.out; first | omega | exact Nat.le_refl _⟩, ⟨by (try simp only [hl1_1]); (try simp only [hl1_2]); (with_reducible repeat (first | apply Kd.R_alloc | apply Kd.R_drewN | apply Kd.R_drew)); exact Kd.R_mono (Kd.R_far (p := ⟨gb165, 1, none⟩) (Kd.R_far (p := ⟨gb165, 0, none⟩) (Kd.R_types HO_1.out BK165.out (by decide)) (fun _ hk => hk.2) (.int .i64 (wrap64 (((rd_T74 x10_2 x11_1).f0) + ((rd_T74 l3 x47_2).f0))))) (fun _ hk => hk.2) (.int .i64 (wrap64 (((rd_T74 x10_2 x11_1).f1) + ((rd_T74 l3 x47_2).f1))))) (fun _ hk => hk.1)⟩, ⟨by (try simp only [hl1_1]); (try simp only [hl1_2]); (with_reducible repeat (first | apply Kd.R_alloc | apply Kd.R_drewN | apply Kd.R_drew)); exact Kd.R_mono (Kd.R_far (p := ⟨gb165, 1, none⟩) (Kd.R_far (p := ⟨gb165, 0, none⟩) (Kd.R_mono HO_10.out (fun k_ hk => (⟨hk, hk.2⟩ : _ ∧ k_ ≠ gb165))) (fun _ hk => hk.2) (.int .i64 (wrap64 (((rd_T74 x10_2 x11_1).f0) + ((rd_T74 l3 x47_2).f0))))) (fun _ hk => hk.2) (.int .i64 (wrap64 (((rd_T74 x10_2 x11_1).f1) + ((rd_T74 l3 x47_2).f1))))) (fun _ hk => ⟨hk.1.1.1, ⟨hk.1.1.2.1, ⟨hk.1.1.2.2, hk.1.2⟩⟩⟩)⟩, ⟨by (try simp only [hl1_1]); (try simp only [hl1_2]); refine bF ?_ ?_; exact NB154_165.out; refine bF ?_ ?_; exact NB154_165.out; exact bU BK154.out⟩, ⟨by (try simp only [hl1_1]); (try simp only [hl1_2]); refine bF ?_ ?_; exact NB155_165.out; refine bF ?_ ?_; exact NB155_165.out; exact bU BK155.out⟩, ⟨by (try simp only [hl1_1]); (try simp only [hl1_2]); refine bF ?_ ?_; exact NB162_165.out; refine bF ?_ ?_; exact NB162_165.out; exact bU BK162.out⟩, ⟨by (try simp only [hl1_1]); (try simp only [hl1_2]); (with_reducible repeat (first | refine blk_drewN ?_ _ | refine blk_drew ?_ | refine blk_alloc ?_ _)); refine blk_put (cs := #[.int .i64 (wrap64 (((rd_T74 x10_2 x11_1).f0) + ((rd_T74 l3 x47_2).f0))), .int .i64 0]) ?_ 1 _ rfl; (with_reducible repeat (first | refine blk_drewN ?_ _ | refine blk_drew ?_ | refine blk_alloc ?_ _)); refine blk_put (cs := #[.int .i64 0, .int .i64 0]) ?_ 0 _ rfl; exact bU BK165.out⟩, ⟨by repeat (first | (with_reducible first | exact HK.out | apply Kept.alloc | apply Kept.drewN | apply Kept.drew | refine Kept.setCell ?_ (.inr GW154.out) _ | refine Kept.setCell ?_ (.inr GW155.out) _ | refine Kept.setCell ?_ (.inr GW162.out) _ | refine Kept.setCell ?_ (.inr GW165.out) _) | exact HK.out)⟩, ⟨bl⟩⟩
                 ·rcases iL H with H1 | H1 <;> clear H <;> obtain ⟨H, c56b0⟩ := H1
                  ·have H' := Aside0.mk H
                   clear H
                   have hnb57 := NB165_154.out
                   have hnc57 := NB154_165.out
                   have hnb58 := NB165_155.out
                   have hnc58 := NB155_165.out
                   have hnb59 := NB165_162.out
                   have hnc59 := NB162_165.out
                   obtain ⟨hcz60_0, hcz60_1, hfz60_0, hfz60_1⟩ := cz2f BK165.out
                   have hnb61 := NB154_155.out
                   have hnc61 := NB155_154.out
                   have hnb62 := NB154_162.out
                   have hnc62 := NB162_154.out
                   obtain ⟨hcz63_0, hcz63_1, hcz63_2, hfz63_0, hfz63_1, hfz63_2⟩ := cz3f BK154.out
                   go_wp2
                   go_meet
                   case rel => exact ⟨_, (true), rq, H', ⟨by have := HK1.out; have := HK2.out; first | omega | exact Nat.le_refl _⟩, ⟨by (try simp only [hl1_1]); (try simp only [hl1_2]); (with_reducible repeat (first | apply Kd.R_alloc | apply Kd.R_drewN | apply Kd.R_drew)); exact Kd.R_mono (Kd.R_far (p := ⟨gb165, 1, none⟩) (Kd.R_far (p := ⟨gb165, 0, none⟩) (Kd.R_types HO_1.out BK165.out (by decide)) (fun _ hk => hk.2) (.int .i64 (wrap64 (((rd_T74 x10_2 x11_1).f0) + ((rd_T74 l3 x47_2).f0))))) (fun _ hk => hk.2) (.int .i64 (wrap64 (((rd_T74 x10_2 x11_1).f1) + ((rd_T74 l3 x47_2).f1))))) (fun _ hk => hk.1)⟩, ⟨by (try simp only [hl1_1]); (try simp only [hl1_2]); (with_reducible repeat (first | apply Kd.R_alloc | apply Kd.R_drewN | apply Kd.R_drew)); exact Kd.R_mono (Kd.R_far (p := ⟨gb165, 1, none⟩) (Kd.R_far (p := ⟨gb165, 0, none⟩) (Kd.R_mono HO_10.out (fun k_ hk => (⟨hk, hk.2⟩ : _ ∧ k_ ≠ gb165))) (fun _ hk => hk.2) (.int .i64 (wrap64 (((rd_T74 x10_2 x11_1).f0) + ((rd_T74 l3 x47_2).f0))))) (fun _ hk => hk.2) (.int .i64 (wrap64 (((rd_T74 x10_2 x11_1).f1) + ((rd_T74 l3 x47_2).f1))))) (fun _ hk => ⟨hk.1.1.1, ⟨hk.1.1.2.1, ⟨hk.1.1.2.2, hk.1.2⟩⟩⟩)⟩, ⟨by (try simp only [hl1_1]); (try simp only [hl1_2]); refine bF ?_ ?_; exact NB154_165.out; refine bF ?_ ?_; exact NB154_165.out; exact bU BK154.out⟩, ⟨by (try simp only [hl1_1]); (try simp only [hl1_2]); refine bF ?_ ?_; exact NB155_165.out; refine bF ?_ ?_; exact NB155_165.out; exact bU BK155.out⟩, ⟨by (try simp only [hl1_1]); (try simp only [hl1_2]); refine bF ?_ ?_; exact NB162_165.out; refine bF ?_ ?_; exact NB162_165.out; exact bU BK162.out⟩, ⟨by (try simp only [hl1_1]); (try simp only [hl1_2]); (with_reducible repeat (first | refine blk_drewN ?_ _ | refine blk_drew ?_ | refine blk_alloc ?_ _)); refine blk_put (cs := #[.int .i64 (wrap64 (((rd_T74 x10_2 x11_1).f0) + ((rd_T74 l3 x47_2).f0))), .int .i64 0]) ?_ 1 _ rfl; (with_reducible repeat (first | refine blk_drewN ?_ _ | refine blk_drew ?_ | refine blk_alloc ?_ _)); refine blk_put (cs := #[.int .i64 0, .int .i64 0]) ?_ 0 _ rfl; exact bU BK165.out⟩, ⟨by repeat (first | (with_reducible first | exact HK.out | apply Kept.alloc | apply Kept.drewN | apply Kept.drew | refine Kept.setCell ?_ (.inr GW154.out) _ | refine Kept.setCell ?_ (.inr GW155.out) _ | refine Kept.setCell ?_ (.inr GW162.out) _ | refine Kept.setCell ?_ (.inr GW165.out) _) | exact HK.out)⟩, ⟨bl⟩⟩
                  ·obtain ⟨ji64, hji64⟩ : ∃ j_ : Int, (wrap64 ((wrap64 ((wrap64 (((rd_T74 x10_2 x11_1).f1) + ((rd_T74 l3 x47_2).f1))) * a0_0)) + (wrap64 (((rd_T74 x10_2 x11_1).f0) + ((rd_T74 l3 x47_2).f0))))) = j_ := ⟨_, rfl⟩
                   replace H : (if 0 ≤ (ji64) then (if (ji64) < (x1_2.length : Int) then (if rdOf false x1_2 (ji64) = true then (shape_flood.j2 k2 x1_2 l3 (rd l0_2 (ji5)) x10_2 x11_1 l3 (l3.length : Int) x47_2 true a0_0 a0_1 l0_2 (wrap64 (((rd_T74 x10_2 x11_1).f0) + ((rd_T74 l3 x47_2).f0))) (wrap64 (((rd_T74 x10_2 x11_1).f1) + ((rd_T74 l3 x47_2).f1)))) else (if (ji64) < (l0_2.length : Int) then (shape_flood.j2 k2 x1_2 l3 (rd l0_2 (ji5)) x10_2 x11_1 l3 (l3.length : Int) x47_2 ((rd l0_2 (ji64)) != (rd l0_2 (ji5))) a0_0 a0_1 l0_2 (wrap64 (((rd_T74 x10_2 x11_1).f0) + ((rd_T74 l3 x47_2).f0))) (wrap64 (((rd_T74 x10_2 x11_1).f1) + ((rd_T74 l3 x47_2).f1)))) else (none))) else (none)) else (none)) = some (r1, r2) := by first | (rw [hji64] at H; exact H) | (simp only [hji64] at H ⊢; exact H)
                   have hji64w : (IntKind.i64.wrap ((wrap64 ((wrap64 (((rd_T74 x10_2 x11_1).f1) + ((rd_T74 l3 x47_2).f1))) * a0_0)) + (wrap64 (((rd_T74 x10_2 x11_1).f0) + ((rd_T74 l3 x47_2).f0))))) = ji64 := (i64_w _).trans hji64
                   by_cases c65 : 0 ≤ (ji64)
                   ·rw [if_pos c65] at H
                    have c65b0 := decide_eq_true c65
                    clear c65
                    by_cases c66 : (ji64) < (x1_2.length : Int)
                    ·rw [if_pos c66] at H
                     have c66b0 := decide_eq_true c66
                     (try (have c66b0_hl1_1 := c66b0; simp only [hl1_1] at c66b0_hl1_1))
                     (try (have c66b0_hl1_2 := c66b0; simp only [hl1_2] at c66b0_hl1_2))
                     clear c66
                     obtain ⟨bq67, hbq67⟩ : ∃ b_ : Bool, b_ = (rdOf false x1_2 (ji64)) := ⟨_, rfl⟩
                     replace H : (if bq67 = true then (shape_flood.j2 k2 x1_2 l3 (rd l0_2 (ji5)) x10_2 x11_1 l3 (l3.length : Int) x47_2 true a0_0 a0_1 l0_2 (wrap64 (((rd_T74 x10_2 x11_1).f0) + ((rd_T74 l3 x47_2).f0))) (wrap64 (((rd_T74 x10_2 x11_1).f1) + ((rd_T74 l3 x47_2).f1)))) else (if (ji64) < (l0_2.length : Int) then (shape_flood.j2 k2 x1_2 l3 (rd l0_2 (ji5)) x10_2 x11_1 l3 (l3.length : Int) x47_2 ((rd l0_2 (ji64)) != (rd l0_2 (ji5))) a0_0 a0_1 l0_2 (wrap64 (((rd_T74 x10_2 x11_1).f0) + ((rd_T74 l3 x47_2).f0))) (wrap64 (((rd_T74 x10_2 x11_1).f1) + ((rd_T74 l3 x47_2).f1)))) else (none))) = some (r1, r2) := by rw [← hbq67] at H; exact H
                     have Nbq67 := Aside0.mk hbq67
                     clear hbq67
                     by_cases c68 : bq67 = true
                     ·subst c68
                      rw [if_pos rfl] at H
                      have H' := Aside0.mk H
                      clear H
                      have hnb69 := NB165_154.out
                      have hnc69 := NB154_165.out
                      have hnb70 := NB165_155.out
                      have hnc70 := NB155_165.out
                      have hnb71 := NB165_162.out
                      have hnc71 := NB162_165.out
                      obtain ⟨hcz72_0, hcz72_1, hfz72_0, hfz72_1⟩ := cz2f BK165.out
                      have hnb73 := NB154_155.out
                      have hnc73 := NB155_154.out
                      have hnb74 := NB154_162.out
                      have hnc74 := NB162_154.out
                      obtain ⟨hcz75_0, hcz75_1, hcz75_2, hfz75_0, hfz75_1, hfz75_2⟩ := cz3f BK154.out
                      have p166 : 0 ≤ ((ji64) : Int) := dt
                      have q166 : (ji64) < (x1_2.length : Int) := dt
                      obtain ⟨ad166, e166, hx166_0⟩ := Kd.at_bool (Kd.R_reads' HO_1.out).2.2 (ji64) p166 q166
                      (try rw [← Nbq67.out] at hx166_0)
                      obtain rfl : (⟨go9, 0, none⟩ : Addr) = ad166 := (by injection e166)
                      (first | simp only [add_plain] at hx166_0 | simp only [add_at] at hx166_0 | simp only [Addr.add, Nat.zero_add] at hx166_0 | skip)
                      have hn166_0 : (⟨go9, 0, none⟩ : Addr).block ≠ gb165 := Kd.own_blk (Kd.R_ne HO_1.out BK165.out (by decide))
                      have hn166_1 : (⟨go9, 0, none⟩ : Addr).block ≠ gb165 := Kd.own_blk (Kd.R_ne HO_1.out BK165.out (by decide))
                      replace hx166_0 := (cell_far (p := ⟨gb165, 0, none⟩) (by first | (rw [add_block]; exact hn166_0) | (show (Addr.add _ _).block ≠ _; rw [add_block]; exact hn166_0) | exact hn166_0) (.int .i64 (wrap64 (((rd_T74 x10_2 x11_1).f0) + ((rd_T74 l3 x47_2).f0))))).trans hx166_0
                      replace hx166_0 := (cell_far (p := ⟨gb165, 1, none⟩) (by first | (rw [add_block]; exact hn166_1) | (show (Addr.add _ _).block ≠ _; rw [add_block]; exact hn166_1) | exact hn166_1) (.int .i64 (wrap64 (((rd_T74 x10_2 x11_1).f1) + ((rd_T74 l3 x47_2).f1))))).trans hx166_0
                      clear hn166_0
                      clear hn166_1
                      replace p166 := eq_true p166
                      replace q166 := eq_true q166
                      go_wp2
                      go_meet
                      case rel => exact ⟨_, (true), rq, H', ⟨by have := HK1.out; have := HK2.out; first | omega | exact Nat.le_refl _⟩, ⟨by (try simp only [hl1_1]); (try simp only [hl1_2]); (with_reducible repeat (first | apply Kd.R_alloc | apply Kd.R_drewN | apply Kd.R_drew)); exact Kd.R_mono (Kd.R_far (p := ⟨gb165, 1, none⟩) (Kd.R_far (p := ⟨gb165, 0, none⟩) (Kd.R_types HO_1.out BK165.out (by decide)) (fun _ hk => hk.2) (.int .i64 (wrap64 (((rd_T74 x10_2 x11_1).f0) + ((rd_T74 l3 x47_2).f0))))) (fun _ hk => hk.2) (.int .i64 (wrap64 (((rd_T74 x10_2 x11_1).f1) + ((rd_T74 l3 x47_2).f1))))) (fun _ hk => hk.1)⟩, ⟨by (try simp only [hl1_1]); (try simp only [hl1_2]); (with_reducible repeat (first | apply Kd.R_alloc | apply Kd.R_drewN | apply Kd.R_drew)); exact Kd.R_mono (Kd.R_far (p := ⟨gb165, 1, none⟩) (Kd.R_far (p := ⟨gb165, 0, none⟩) (Kd.R_mono HO_10.out (fun k_ hk => (⟨hk, hk.2⟩ : _ ∧ k_ ≠ gb165))) (fun _ hk => hk.2) (.int .i64 (wrap64 (((rd_T74 x10_2 x11_1).f0) + ((rd_T74 l3 x47_2).f0))))) (fun _ hk => hk.2) (.int .i64 (wrap64 (((rd_T74 x10_2 x11_1).f1) + ((rd_T74 l3 x47_2).f1))))) (fun _ hk => ⟨hk.1.1.1, ⟨hk.1.1.2.1, ⟨hk.1.1.2.2, hk.1.2⟩⟩⟩)⟩, ⟨by (try simp only [hl1_1]); (try simp only [hl1_2]); refine bF ?_ ?_; exact NB154_165.out; refine bF ?_ ?_; exact NB154_165.out; exact bU BK154.out⟩, ⟨by (try simp only [hl1_1]); (try simp only [hl1_2]); refine bF ?_ ?_; exact NB155_165.out; refine bF ?_ ?_; exact NB155_165.out; exact bU BK155.out⟩, ⟨by (try simp only [hl1_1]); (try simp only [hl1_2]); refine bF ?_ ?_; exact NB162_165.out; refine bF ?_ ?_; exact NB162_165.out; exact bU BK162.out⟩, ⟨by (try simp only [hl1_1]); (try simp only [hl1_2]); (with_reducible repeat (first | refine blk_drewN ?_ _ | refine blk_drew ?_ | refine blk_alloc ?_ _)); refine blk_put (cs := #[.int .i64 (wrap64 (((rd_T74 x10_2 x11_1).f0) + ((rd_T74 l3 x47_2).f0))), .int .i64 0]) ?_ 1 _ rfl; (with_reducible repeat (first | refine blk_drewN ?_ _ | refine blk_drew ?_ | refine blk_alloc ?_ _)); refine blk_put (cs := #[.int .i64 0, .int .i64 0]) ?_ 0 _ rfl; exact bU BK165.out⟩, ⟨by repeat (first | (with_reducible first | exact HK.out | apply Kept.alloc | apply Kept.drewN | apply Kept.drew | refine Kept.setCell ?_ (.inr GW154.out) _ | refine Kept.setCell ?_ (.inr GW155.out) _ | refine Kept.setCell ?_ (.inr GW162.out) _ | refine Kept.setCell ?_ (.inr GW165.out) _) | exact HK.out)⟩, ⟨bl⟩⟩
                     ·replace c68 := Bool.eq_false_iff.mpr c68
                      subst c68
                      rw [if_neg Bool.false_ne_true] at H
                      by_cases c76 : (ji64) < (l0_2.length : Int)
                      ·rw [if_pos c76] at H
                       have c76b0 := decide_eq_true c76
                       (try (have c76b0_hl1_1 := c76b0; simp only [hl1_1] at c76b0_hl1_1))
                       (try (have c76b0_hl1_2 := c76b0; simp only [hl1_2] at c76b0_hl1_2))
                       clear c76
                       have H' := Aside0.mk H
                       clear H
                       have hnb77 := NB165_154.out
                       have hnc77 := NB154_165.out
                       have hnb78 := NB165_155.out
                       have hnc78 := NB155_165.out
                       have hnb79 := NB165_162.out
                       have hnc79 := NB162_165.out
                       obtain ⟨hcz80_0, hcz80_1, hfz80_0, hfz80_1⟩ := cz2f BK165.out
                       have hnb81 := NB154_155.out
                       have hnc81 := NB155_154.out
                       have hnb82 := NB154_162.out
                       have hnc82 := NB162_154.out
                       obtain ⟨hcz83_0, hcz83_1, hcz83_2, hfz83_0, hfz83_1, hfz83_2⟩ := cz3f BK154.out
                       have p166 : 0 ≤ ((ji64) : Int) := dt
                       have q166 : (ji64) < (x1_2.length : Int) := dt
                       obtain ⟨ad166, e166, hx166_0⟩ := Kd.at_bool (Kd.R_reads' HO_1.out).2.2 (ji64) p166 q166
                       (try rw [← Nbq67.out] at hx166_0)
                       obtain rfl : (⟨go9, 0, none⟩ : Addr) = ad166 := (by injection e166)
                       (first | simp only [add_plain] at hx166_0 | simp only [add_at] at hx166_0 | simp only [Addr.add, Nat.zero_add] at hx166_0 | skip)
                       have hn166_0 : (⟨go9, 0, none⟩ : Addr).block ≠ gb165 := Kd.own_blk (Kd.R_ne HO_1.out BK165.out (by decide))
                       have hn166_1 : (⟨go9, 0, none⟩ : Addr).block ≠ gb165 := Kd.own_blk (Kd.R_ne HO_1.out BK165.out (by decide))
                       replace hx166_0 := (cell_far (p := ⟨gb165, 0, none⟩) (by first | (rw [add_block]; exact hn166_0) | (show (Addr.add _ _).block ≠ _; rw [add_block]; exact hn166_0) | exact hn166_0) (.int .i64 (wrap64 (((rd_T74 x10_2 x11_1).f0) + ((rd_T74 l3 x47_2).f0))))).trans hx166_0
                       replace hx166_0 := (cell_far (p := ⟨gb165, 1, none⟩) (by first | (rw [add_block]; exact hn166_1) | (show (Addr.add _ _).block ≠ _; rw [add_block]; exact hn166_1) | exact hn166_1) (.int .i64 (wrap64 (((rd_T74 x10_2 x11_1).f1) + ((rd_T74 l3 x47_2).f1))))).trans hx166_0
                       clear hn166_0
                       clear hn166_1
                       replace p166 := eq_true p166
                       replace q166 := eq_true q166
                       have p167 : 0 ≤ ((ji64) : Int) := dt
                       have q167 : (ji64) < (l0_2.length : Int) := dt
                       obtain ⟨ad167, e167, hx167_0⟩ := Kd.at_int (Kd.C_kept_now HR0_2.out (show Kept w ((w35.setCell ⟨gb165, 0, none⟩ (.int .i64 (wrap64 (((rd_T74 x10_2 x11_1).f0) + ((rd_T74 l3 x47_2).f0))))).setCell ⟨gb165, 1, none⟩ (.int .i64 (wrap64 (((rd_T74 x10_2 x11_1).f1) + ((rd_T74 l3 x47_2).f1))))) (fun k_ => P1_ k_) from by repeat (first | (with_reducible first | exact HK.out | apply Kept.alloc | apply Kept.drewN | apply Kept.drew | refine Kept.setCell ?_ (.inr GW154.out) _ | refine Kept.setCell ?_ (.inr GW155.out) _ | refine Kept.setCell ?_ (.inr GW162.out) _ | refine Kept.setCell ?_ (.inr GW165.out) _) | exact HK.out))) (ji64) p167 q167
                       obtain rfl : ad156 = ad167 := (by injection e167)
                       replace p167 := eq_true p167
                       replace q167 := eq_true q167
                       go_wp2
                       go_meet
                       case rel => exact ⟨_, (((rd l0_2 (ji64)) != (rd l0_2 (ji5)))), (by first | rfl | (simp; done) | (simp only [← hji5, ← hji64] <;> (first | rfl | simp)) | (simp [*]; done)), H', ⟨by have := HK1.out; have := HK2.out; first | omega | exact Nat.le_refl _⟩, ⟨by (try simp only [hl1_1]); (try simp only [hl1_2]); (with_reducible repeat (first | apply Kd.R_alloc | apply Kd.R_drewN | apply Kd.R_drew)); exact Kd.R_mono (Kd.R_far (p := ⟨gb165, 1, none⟩) (Kd.R_far (p := ⟨gb165, 0, none⟩) (Kd.R_types HO_1.out BK165.out (by decide)) (fun _ hk => hk.2) (.int .i64 (wrap64 (((rd_T74 x10_2 x11_1).f0) + ((rd_T74 l3 x47_2).f0))))) (fun _ hk => hk.2) (.int .i64 (wrap64 (((rd_T74 x10_2 x11_1).f1) + ((rd_T74 l3 x47_2).f1))))) (fun _ hk => hk.1)⟩, ⟨by (try simp only [hl1_1]); (try simp only [hl1_2]); (with_reducible repeat (first | apply Kd.R_alloc | apply Kd.R_drewN | apply Kd.R_drew)); exact Kd.R_mono (Kd.R_far (p := ⟨gb165, 1, none⟩) (Kd.R_far (p := ⟨gb165, 0, none⟩) (Kd.R_mono HO_10.out (fun k_ hk => (⟨hk, hk.2⟩ : _ ∧ k_ ≠ gb165))) (fun _ hk => hk.2) (.int .i64 (wrap64 (((rd_T74 x10_2 x11_1).f0) + ((rd_T74 l3 x47_2).f0))))) (fun _ hk => hk.2) (.int .i64 (wrap64 (((rd_T74 x10_2 x11_1).f1) + ((rd_T74 l3 x47_2).f1))))) (fun _ hk => ⟨hk.1.1.1, ⟨hk.1.1.2.1, ⟨hk.1.1.2.2, hk.1.2⟩⟩⟩)⟩, ⟨by (try simp only [hl1_1]); (try simp only [hl1_2]); refine bF ?_ ?_; exact NB154_165.out; refine bF ?_ ?_; exact NB154_165.out; exact bU BK154.out⟩, ⟨by (try simp only [hl1_1]); (try simp only [hl1_2]); refine bF ?_ ?_; exact NB155_165.out; refine bF ?_ ?_; exact NB155_165.out; exact bU BK155.out⟩, ⟨by (try simp only [hl1_1]); (try simp only [hl1_2]); refine bF ?_ ?_; exact NB162_165.out; refine bF ?_ ?_; exact NB162_165.out; exact bU BK162.out⟩, ⟨by (try simp only [hl1_1]); (try simp only [hl1_2]); (with_reducible repeat (first | refine blk_drewN ?_ _ | refine blk_drew ?_ | refine blk_alloc ?_ _)); refine blk_put (cs := #[.int .i64 (wrap64 (((rd_T74 x10_2 x11_1).f0) + ((rd_T74 l3 x47_2).f0))), .int .i64 0]) ?_ 1 _ rfl; (with_reducible repeat (first | refine blk_drewN ?_ _ | refine blk_drew ?_ | refine blk_alloc ?_ _)); refine blk_put (cs := #[.int .i64 0, .int .i64 0]) ?_ 0 _ rfl; exact bU BK165.out⟩, ⟨by repeat (first | (with_reducible first | exact HK.out | apply Kept.alloc | apply Kept.drewN | apply Kept.drew | refine Kept.setCell ?_ (.inr GW154.out) _ | refine Kept.setCell ?_ (.inr GW155.out) _ | refine Kept.setCell ?_ (.inr GW162.out) _ | refine Kept.setCell ?_ (.inr GW165.out) _) | exact HK.out)⟩, ⟨bl⟩⟩
                      ·rw [if_neg c76] at H
                       exact absurd H (by simp)
                    ·rw [if_neg c66] at H
                     exact absurd H (by simp)
                   ·rw [if_neg c65] at H
                    exact absurd H (by simp)
              case rest =>
               clear HC27
               try clear c3
               obtain ⟨kq, x118_26, rfl, HA, HJ26, HO_1, HO_10, BK154, BK155, BK162, BK165, HK, HB⟩ := hcut
               cases kq with
               | zero => exact absurd HA.out (by simp [shape_flood.j2])
               | succ kj26 =>
                have H := HA.out
                clear HA
                simp only [shape_flood.j2] at H
                by_cases c84 : x118_26 = true
                ·subst c84
                 rw [if_pos rfl] at H
                 have H' := Aside0.mk H
                 clear H
                 go_wp2
                 (try simp only [← hl1_2])
                 go_roundg kj26
                 case measure => have := HK1.out; have := HK2.out; have := HJ26.out; omega
                 case rel => exact ⟨(x1_2), (x10_2), (wrap64 (x47_2 + 1)), rq, H', ⟨by have := HK1.out; have := HK2.out; have := HJ26.out; omega⟩, ⟨by (try simp only [hl1_1]); (try simp only [hl1_2]); (with_reducible repeat (first | apply Kd.R_alloc | apply Kd.R_drewN | apply Kd.R_drew)); exact HO_1.out⟩, ⟨by (try simp only [hl1_1]); (try simp only [hl1_2]); (with_reducible repeat (first | apply Kd.R_alloc | apply Kd.R_drewN | apply Kd.R_drew)); exact Kd.R_mono HO_10.out (fun _ hk => ⟨hk.1, hk.2.1⟩)⟩, ⟨by (try simp only [hl1_1]); (try simp only [hl1_2]); exact bU BK154.out⟩, ⟨by (try simp only [hl1_1]); (try simp only [hl1_2]); exact bU BK155.out⟩, ⟨by repeat (first | (with_reducible first | exact HK.out | apply Kept.alloc | apply Kept.drewN | apply Kept.drew | refine Kept.setCell ?_ (.inr GW154.out) _ | refine Kept.setCell ?_ (.inr GW155.out) _ | refine Kept.setCell ?_ (.inr GW162.out) _ | refine Kept.setCell ?_ (.inr GW165.out) _) | exact HK.out)⟩, ⟨bl⟩⟩
                ·replace c84 := Bool.eq_false_iff.mpr c84
                 subst c84
                 rw [if_neg Bool.false_ne_true] at H
                 obtain ⟨ji85, hji85⟩ : ∃ j_ : Int, (wrap64 ((wrap64 ((wrap64 (((rd_T74 x10_2 x11_1).f1) + ((rd_T74 l3 x47_2).f1))) * a0_0)) + (wrap64 (((rd_T74 x10_2 x11_1).f0) + ((rd_T74 l3 x47_2).f0))))) = j_ := ⟨_, rfl⟩
                 replace H : (if 0 ≤ (ji85) then (if (ji85) < (x1_2.length : Int) then (if x10_2.length < 8796093022208 then (shape_flood.l1 kj26 (x1_2.set ((ji85) : Int).toNat true) l3 (rd l0_2 (ji5)) (x10_2 ++ [(⟨(wrap64 (((rd_T74 x10_2 x11_1).f0) + ((rd_T74 l3 x47_2).f0))), (wrap64 (((rd_T74 x10_2 x11_1).f1) + ((rd_T74 l3 x47_2).f1)))⟩ : S74)]) x11_1 l3 (l3.length : Int) (wrap64 (x47_2 + 1)) a0_0 a0_1 l0_2) else (none)) else (none)) else (none)) = some (r1, r2) := by first | (rw [hji85] at H; exact H) | (simp only [hji85] at H ⊢; exact H)
                 have hji85w : (IntKind.i64.wrap ((wrap64 ((wrap64 (((rd_T74 x10_2 x11_1).f1) + ((rd_T74 l3 x47_2).f1))) * a0_0)) + (wrap64 (((rd_T74 x10_2 x11_1).f0) + ((rd_T74 l3 x47_2).f0))))) = ji85 := (i64_w _).trans hji85
                 by_cases c86 : 0 ≤ (ji85)
                 ·rw [if_pos c86] at H
                  have c86b0 := decide_eq_true c86
                  clear c86
                  by_cases c87 : (ji85) < (x1_2.length : Int)
                  ·rw [if_pos c87] at H
                   have c87b0 := decide_eq_true c87
                   (try (have c87b0_hl1_1 := c87b0; simp only [hl1_1] at c87b0_hl1_1))
                   (try (have c87b0_hl1_2 := c87b0; simp only [hl1_2] at c87b0_hl1_2))
                   clear c87
                   obtain ⟨y168, hy_⟩ : ∃ y_ : List Bool, y_ = (x1_2.set ((ji85) : Int).toNat true) := ⟨_, rfl⟩
                   replace H : (if x10_2.length < 8796093022208 then (shape_flood.l1 kj26 y168 l3 (rd l0_2 (ji5)) (x10_2 ++ [(⟨(wrap64 (((rd_T74 x10_2 x11_1).f0) + ((rd_T74 l3 x47_2).f0))), (wrap64 (((rd_T74 x10_2 x11_1).f1) + ((rd_T74 l3 x47_2).f1)))⟩ : S74)]) x11_1 l3 (l3.length : Int) (wrap64 (x47_2 + 1)) a0_0 a0_1 l0_2) else (none)) = some (r1, r2) := rh
                   have Ny168 := aE hy_
                   clear hy_
                   by_cases c89 : x10_2.length < 8796093022208
                   ·rw [if_pos c89] at H
                    have LMc89 := Aside0.mk c89
                    clear c89
                    obtain ⟨y169, hy_⟩ : ∃ y_ : List (S74), y_ = (x10_2 ++ [(⟨(wrap64 (((rd_T74 x10_2 x11_1).f0) + ((rd_T74 l3 x47_2).f0))), (wrap64 (((rd_T74 x10_2 x11_1).f1) + ((rd_T74 l3 x47_2).f1)))⟩ : S74)]) := ⟨_, rfl⟩
                    replace H : (shape_flood.l1 kj26 y168 l3 (rd l0_2 (ji5)) y169 x11_1 l3 (l3.length : Int) (wrap64 (x47_2 + 1)) a0_0 a0_1 l0_2) = some (r1, r2) := rh
                    have Ny169 := aE hy_
                    clear hy_
                    have H' := Aside0.mk H
                    clear H
                    have hnb90 := NB165_154.out
                    have hnc90 := NB154_165.out
                    have hnb91 := NB165_155.out
                    have hnc91 := NB155_165.out
                    have hnb92 := NB165_162.out
                    have hnc92 := NB162_165.out
                    obtain ⟨hcz93_0, hcz93_1, hfz93_0, hfz93_1⟩ := cz2f BK165.out
                    have hnb94 := NB154_155.out
                    have hnc94 := NB155_154.out
                    have hnb95 := NB154_162.out
                    have hnc95 := NB162_154.out
                    obtain ⟨hcz96_0, hcz96_1, hcz96_2, hfz96_0, hfz96_1, hfz96_2⟩ := cz3f BK154.out
                    have p88 : 0 ≤ ((ji85) : Int) := dt
                    have q88 : ((ji85) : Int) < ((x1_2.length : Int) : Int) := dt
                    obtain ⟨hx88_0, hf88_0⟩ := Kd.R_celln false HO_1.out ((ji85) : Int) p88 q88
                    replace p88 := eq_true p88
                    replace q88 := eq_true q88
                    have HP97 := Kd.R_putg HO_1.out ((ji85) : Int) true
                    go_wp2_with (first | ((with_reducible refine gate_store (t := 4) (p := 128) rfl ?_); refine store_event (t := 4) (p := 128) (v := ?vo_w98) (w1 := (wc.setCell ⟨go9, ((ji85) : Int).toNat, none⟩ (.bool true))) ?hg ?ho ?hn ?hr ?_; (case ho => rfl); (case hg => rfl); (case hn => rfl); (case hr => first | (go_simp; done) | (go_simp; rfl)); intro w98 hw; have hg : wc.grownBy w98 (some go9) := (by rw [hw]; exact HP97.2); have hp_ : Kd.R Kd.bool 4 w98 w0.heap.size (fun k_ => (P1_ k_ ∨ w.heap.size ≤ k_)) (.slice (some ⟨go9, 0, none⟩) x1_2.length co9) y168 := (by rw [hw, Ny168.out]; exact HP97.1); clear HP97; have n_ := aC hp_ (aC (Kd.R_over' (v := (.slice (some ⟨go9, 0, none⟩) x1_2.length co9)) (rU HO_10.out) (Kd.R_typed HO_1.out) (by decide) hg) (aC (blk_grown (bU BK154.out) hg (Kd.R_ne HO_1.out BK154.out (by decide))) (aC (blk_grown (bU BK155.out) hg (Kd.R_ne HO_1.out BK155.out (by decide))) (aC (blk_grown (g := gb162) (o := .cells #[.int .i64 ((rd_T74 l3 x47_2).f0), .int .i64 ((rd_T74 l3 x47_2).f1)] 74 (0, 0)) (bU BK162.out) hg (Kd.R_ne HO_1.out BK162.out (by decide))) (aC (blk_grown (g := gb165) (o := .cells #[.int .i64 (wrap64 (((rd_T74 x10_2 x11_1).f0) + ((rd_T74 l3 x47_2).f0))), .int .i64 (wrap64 (((rd_T74 x10_2 x11_1).f1) + ((rd_T74 l3 x47_2).f1)))] 74 (0, 0)) (bU BK165.out) hg (Kd.R_ne HO_1.out BK165.out (by decide))) (aC ((by rw [hw]; exact below_set (HB.out) GB9.out : Below w0.heap.size w0 w98)) (aE (Kept.of_grown (S := (fun k_ => P1_ k_)) hg (by repeat (first | (with_reducible first | exact HK.out | apply Kept.alloc | apply Kept.drewN | apply Kept.drew | refine Kept.setCell ?_ (.inr GW154.out) _ | refine Kept.setCell ?_ (.inr GW155.out) _ | refine Kept.setCell ?_ (.inr GW162.out) _ | refine Kept.setCell ?_ (.inr GW165.out) _) | exact HK.out)) (fun k_ e_ => (HO_1.out.1 k_ e_)))))))))); clear HO_1 HO_10 BK154 BK155 BK162 BK165 HB HK; obtain ⟨HO_1, HO_10, BK154, BK155, BK162, BK165, HB, HK⟩ := n_; clear hg hw hp_; obtain ⟨hcz99_0, hcz99_1, hfz99_0, hfz99_1⟩ := cz2f BK165.out) | ((with_reducible refine gate_builtin (b := .append) (xs := #[.tmp 129, .tmp 131]) rfl ?_); at_builtin; refine Kd.R_append k74 (w0 := w0) w0.heap.size rfl (.tmp 129) (.tmp 131) 71 74 (.agg #[(.int .i64 0), (.int .i64 0)]) 16 rfl Try.underlying71 info74 rfl (by decide) (by omega) (.slice (some ad163) x10_2.length co34) x10_2 (⟨(wrap64 (((rd_T74 x10_2 x11_1).f0) + ((rd_T74 l3 x47_2).f0))), (wrap64 (((rd_T74 x10_2 x11_1).f1) + ((rd_T74 l3 x47_2).f1)))⟩ : S74) [.int .i64 (wrap64 (((rd_T74 x10_2 x11_1).f0) + ((rd_T74 l3 x47_2).f0))), .int .i64 (wrap64 (((rd_T74 x10_2 x11_1).f1) + ((rd_T74 l3 x47_2).f1)))] (fun k_ => (P1_ k_ ∨ w.heap.size ≤ k_) ∧ k_ ≠ gb155 ∧ k_ ≠ gb162 ∧ k_ ≠ gb165) (fun _ => False) rfl rfl ?aP (fun _ hk => hk.elim) ?aF ?aO ?aB ?aS ?aL ?_; (case aP => exact k74_mkM _ _ _ (⟨(wrap64 (((rd_T74 x10_2 x11_1).f0) + ((rd_T74 l3 x47_2).f0))), (wrap64 (((rd_T74 x10_2 x11_1).f1) + ((rd_T74 l3 x47_2).f1)))⟩ : S74)); (case aB => exact bl); (case aF => exact (fun k_ hk => ⟨(.inr (Nat.le_trans (by first | exact HK.out.1 | exact (show Kept w _ (fun k_ => P1_ k_) from by repeat (first | (with_reducible first | exact HK.out | apply Kept.alloc | apply Kept.drewN | apply Kept.drew | refine Kept.setCell ?_ (.inr GW154.out) _ | refine Kept.setCell ?_ (.inr GW155.out) _ | refine Kept.setCell ?_ (.inr GW162.out) _ | refine Kept.setCell ?_ (.inr GW165.out) _) | exact HK.out)).1) hk)), Kd.freshB (bU BK155.out) k_ hk, Kd.freshB (g := gb162) (o := .cells #[.int .i64 ((rd_T74 l3 x47_2).f0), .int .i64 ((rd_T74 l3 x47_2).f1)] 74 (0, 0)) (bU BK162.out) k_ hk, Kd.freshB (g := gb165) (o := .cells #[.int .i64 (wrap64 (((rd_T74 x10_2 x11_1).f0) + ((rd_T74 l3 x47_2).f0))), .int .i64 (wrap64 (((rd_T74 x10_2 x11_1).f1) + ((rd_T74 l3 x47_2).f1)))] 74 (0, 0)) (bU BK165.out) k_ hk⟩)); (case aO => exact (rU HO_10.out)); (case aS => exact bz); (case aL => have := LMc89.out; omega); intro v170 w100 ho hb hg hat; rw [← Ny169.out] at ho; have n_ := aC (Kd.R_over' (rU HO_1.out) (Kd.R_typed (rU HO_10.out)) (by decide) hg) (aC (blk_grown (bU BK154.out) hg (Kd.R_ne HO_10.out BK154.out (by decide))) (aC (blk_grown (bU BK155.out) hg (Kd.R_away HO_10.out (fun _ hk => hk.2.1))) (aC (blk_grown (g := gb162) (o := .cells #[.int .i64 ((rd_T74 l3 x47_2).f0), .int .i64 ((rd_T74 l3 x47_2).f1)] 74 (0, 0)) (bU BK162.out) hg (Kd.R_away HO_10.out (fun _ hk => hk.2.2.1))) (aC (blk_grown (g := gb165) (o := .cells #[.int .i64 (wrap64 (((rd_T74 x10_2 x11_1).f0) + ((rd_T74 l3 x47_2).f0))), .int .i64 (wrap64 (((rd_T74 x10_2 x11_1).f1) + ((rd_T74 l3 x47_2).f1)))] 74 (0, 0)) (bU BK165.out) hg (Kd.R_away HO_10.out (fun _ hk => hk.2.2.2))) (aC hb (aC (Kept.of_grown (S := (fun k_ => P1_ k_)) hg (by repeat (first | (with_reducible first | exact HK.out | apply Kept.alloc | apply Kept.drewN | apply Kept.drew | refine Kept.setCell ?_ (.inr GW154.out) _ | refine Kept.setCell ?_ (.inr GW155.out) _ | refine Kept.setCell ?_ (.inr GW162.out) _ | refine Kept.setCell ?_ (.inr GW165.out) _) | exact HK.out)) (fun k_ e_ => (HO_10.out.1 k_ e_).1)) (aE ho))))))); clear HO_1 BK154 BK155 BK162 BK165 HB HK HO_10; obtain ⟨HO_1, BK154, BK155, BK162, BK165, HB, HK, HO171⟩ := n_; clear ho hb hg hat))
                    (try simp only [← hl1_2])
                    go_roundg kj26
                    case measure => have := HK1.out; have := HK2.out; have := HJ26.out; omega
                    case rel => exact ⟨(y168), (y169), (wrap64 (x47_2 + 1)), rq, H', ⟨by have := HK1.out; have := HK2.out; have := HJ26.out; omega⟩, ⟨by (try simp only [hl1_1]); (try simp only [hl1_2]); (with_reducible repeat (first | apply Kd.R_alloc | apply Kd.R_drewN | apply Kd.R_drew)); exact HO_1.out⟩, ⟨by (try simp only [hl1_1]); (try simp only [hl1_2]); (with_reducible repeat (first | apply Kd.R_alloc | apply Kd.R_drewN | apply Kd.R_drew)); exact Kd.R_mono HO171.out (fun _ hk => ⟨hk.1, hk.2.1⟩)⟩, ⟨by (try simp only [hl1_1]); (try simp only [hl1_2]); exact bU BK154.out⟩, ⟨by (try simp only [hl1_1]); (try simp only [hl1_2]); exact bU BK155.out⟩, ⟨by repeat (first | (with_reducible first | exact HK.out | apply Kept.alloc | apply Kept.drewN | apply Kept.drew | refine Kept.setCell ?_ (.inr GW154.out) _ | refine Kept.setCell ?_ (.inr GW155.out) _ | refine Kept.setCell ?_ (.inr GW162.out) _ | refine Kept.setCell ?_ (.inr GW165.out) _) | exact HK.out)⟩, ⟨bl⟩⟩
                   ·rw [if_neg c89] at H
                    exact absurd H (by simp)
                  ·rw [if_neg c87] at H
                   exact absurd H (by simp)
                 ·rw [if_neg c86] at H
                  exact absurd H (by simp)
             ·rw [if_neg c26] at H
              exact absurd H (by simp)
            ·rw [if_neg c25] at H
             exact absurd H (by simp)
           ·rw [if_neg c24] at H
            exact absurd H (by simp)
          ·rw [if_neg c23] at H
           exact absurd H (by simp)
         ·rw [if_neg c22] at H
          have c22b0 := decide_eq_false c22
          (try (have c22b0_hl1_1 := c22b0; simp only [hl1_1] at c22b0_hl1_1))
          (try (have c22b0_hl1_2 := c22b0; simp only [hl1_2] at c22b0_hl1_2))
          clear c22
          have H' := Aside0.mk H
          clear H
          go_wp2
          (try simp only [← hl1_1, ← hl1_2])
          go_roundg k2
          case measure => have := HK1.out; have := HK2.out; omega
          case rel => exact ⟨(x1_2), (x10_2), (wrap64 (x11_1 + 1)), rq, H', ⟨by have := HK1.out; have := HK2.out; omega⟩, ⟨by (try simp only [hl1_1]); (try simp only [hl1_2]); (with_reducible repeat (first | apply Kd.R_alloc | apply Kd.R_drewN | apply Kd.R_drew)); exact HO_1.out⟩, ⟨by (try simp only [hl1_1]); (try simp only [hl1_2]); (with_reducible repeat (first | apply Kd.R_alloc | apply Kd.R_drewN | apply Kd.R_drew)); exact HO_10.out⟩, ⟨by (try simp only [hl1_1]); (try simp only [hl1_2]); exact bU BK154.out⟩, ⟨by (try simp only [hl1_1]); (try simp only [hl1_2]); exact bU BK155.out⟩, ⟨by repeat (first | (with_reducible first | exact HK.out | apply Kept.alloc | apply Kept.drewN | apply Kept.drew | refine Kept.setCell ?_ (.inr GW154.out) _ | refine Kept.setCell ?_ (.inr GW155.out) _) | exact HK.out)⟩, ⟨bl⟩⟩
      ·rw [if_neg c20] at H
       have c20b0 := decide_eq_false c20
       (try (have c20b0_hl1_1 := c20b0; simp only [hl1_1] at c20b0_hl1_1))
       clear c20
       simp only [Option.some.injEq, Prod.mk.injEq] at H
       obtain ⟨rfl, rfl⟩ := H
       obtain ⟨Ao101, co101, eo101⟩ := Kd.R_slice HO_10.out
       subst eo101
       go_wp2
       go_ret
       exact ⟨_, by first | rfl | (simp [errW_none, errW_some] <;> rfl) | (simp only [← hji5]; first | rfl | (simp [errW_none, errW_some] <;> rfl)) | (simp [*, errW_none, errW_some] <;> rfl), rU (Kd.R_mono HO_10.out (fun _ hk => hk.1)), (by first | exact (rU HO_1.out) | (simp only [hl1_1]; exact (rU HO_1.out))), bl, by repeat (first | (with_reducible first | exact HK.out | apply Kept.alloc | apply Kept.drewN | apply Kept.drew | refine Kept.setCell ?_ (.inr GW154.out) _ | refine Kept.setCell ?_ (.inr GW155.out) _) | exact HK.out)⟩
   ·rw [if_neg c8] at H
    exact absurd H (by simp)
  ·rw [if_neg c7] at H
   exact absurd H (by simp)
 ·rw [if_neg c6] at H
  exact absurd H (by simp)
end Go.Proofs.Ytnnbfkmmjclhaaa.PScanSpecks
