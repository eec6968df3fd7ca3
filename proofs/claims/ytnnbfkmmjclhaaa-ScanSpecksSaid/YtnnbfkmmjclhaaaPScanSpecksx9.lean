-- printed (wip/tools/myprint.py)
import Derived.Test.YtnnbfkmmjclhaaaPScanSpecksx0
namespace Go.Proofs.Ytnnbfkmmjclhaaa.PScanSpecks
open Go.RowKit Go.Proofs.YtnnbfkmmjclhaaaW.PrintWords Go.Proofs.YtnnbfkmmjclhaaaW.PrintLast Go.Proofs.YtnnbfkmmjclhaaaW.PrintMore
attribute [local go_sem] max2_int min2_int max_two min_two max_three min_three max_four min_four
set_option linter.unusedVariables false
set_option linter.unusedSimpArgs false
mutual
def incunableref15_spread.l0 : Nat → List Int → Int → Int → Bool → List Int → Int → Int → Int → List Int → Option (Int × List Int)
 | 0, _, _, _, _, _, _, _, _, _ => none
 | k + 1, x1, x3, x4, x5, x13, x14, x301000, x301001, x301002 => if x14 < (x13.length : Int) then (if 0 ≤ x14 then (if x301000 = 0 then (none) else (incunableref15_spread.l1 k x1 x3 x4 x5 x13 x14 (Int.tmod (rd x13 x14) x301000) (wrap64 (Int.tdiv (rd x13 x14) x301000)) (wrap64 ((wrap64 (Int.tdiv (rd x13 x14) x301000)) - 1)) x301000 x301001 x301002)) else (none)) else (some ((x13.length : Int), x1))
def incunableref15_spread.l1 : Nat → List Int → Int → Int → Bool → List Int → Int → Int → Int → Int → Int → Int → List Int → Option (Int × List Int)
 | 0, _, _, _, _, _, _, _, _, _, _, _, _ => none
 | k + 1, x1, x3, x4, x5, x13, x14, x15, x16, x17, x301000, x301001, x301002 => if x17 ≤ (wrap64 (x16 + 1)) then (incunableref15_spread.l2 k x1 x3 x4 x5 x13 x14 x15 x16 x17 (wrap64 (x15 - 1)) x301000 x301001 x301002) else (incunableref15_spread.l0 k x1 x3 x4 x5 x13 (wrap64 (x14 + 1)) x301000 x301001 x301002)
def incunableref15_spread.l2 : Nat → List Int → Int → Int → Bool → List Int → Int → Int → Int → Int → Int → Int → Int → List Int → Option (Int × List Int)
 | 0, _, _, _, _, _, _, _, _, _, _, _, _, _ => none
 | k + 1, x1, x3, x4, x5, x13, x14, x15, x16, x17, x18, x301000, x301001, x301002 => if x18 ≤ (wrap64 (x15 + 1)) then (if x18 < 0 then (incunableref15_spread.j3 k x1 x3 x4 x5 x13 x14 x15 x16 x17 x18 true x301000 x301001 x301002) else (if x17 < 0 then (incunableref15_spread.j3 k x1 x3 x4 x5 x13 x14 x15 x16 x17 x18 true x301000 x301001 x301002) else (if x18 ≥ x301000 then (incunableref15_spread.j3 k x1 x3 x4 x5 x13 x14 x15 x16 x17 x18 true x301000 x301001 x301002) else (if x17 ≥ x301001 then (incunableref15_spread.j3 k x1 x3 x4 x5 x13 x14 x15 x16 x17 x18 true x301000 x301001 x301002) else (if x5 = true then (incunableref15_spread.j3 k x1 x3 x4 x5 x13 x14 x15 x16 x17 x18 false x301000 x301001 x301002) else (if x18 = x15 then (incunableref15_spread.j3 k x1 x3 x4 x5 x13 x14 x15 x16 x17 x18 false x301000 x301001 x301002) else (incunableref15_spread.j3 k x1 x3 x4 x5 x13 x14 x15 x16 x17 x18 (x17 != x16) x301000 x301001 x301002))))))) else (incunableref15_spread.l1 k x1 x3 x4 x5 x13 x14 x15 x16 (wrap64 (x17 + 1)) x301000 x301001 x301002)
def incunableref15_spread.j3 : Nat → List Int → Int → Int → Bool → List Int → Int → Int → Int → Int → Int → Bool → Int → Int → List Int → Option (Int × List Int)
 | 0, _, _, _, _, _, _, _, _, _, _, _, _, _, _ => none
 | k + 1, x1, x3, x4, x5, x13, x14, x15, x16, x17, x18, x93, x301000, x301001, x301002 => if x93 = true then (incunableref15_spread.l2 k x1 x3 x4 x5 x13 x14 x15 x16 x17 (wrap64 (x18 + 1)) x301000 x301001 x301002) else (if 0 ≤ (wrap64 ((wrap64 (x17 * x301000)) + x18)) then (if (wrap64 ((wrap64 (x17 * x301000)) + x18)) < (x301002.length : Int) then (if (wrap64 (rd x301002 (wrap64 ((wrap64 (x17 * x301000)) + x18)))) = x4 then (if (wrap64 ((wrap64 (x17 * x301000)) + x18)) < (x1.length : Int) then (if (rd x1 (wrap64 ((wrap64 (x17 * x301000)) + x18))) = 0 then (if x13.length < 17592186044416 then (incunableref15_spread.l2 k (x1.set ((wrap64 ((wrap64 (x17 * x301000)) + x18)) : Int).toNat x3) x3 x4 x5 (x13 ++ [wrap64 ((wrap64 (x17 * x301000)) + x18)]) x14 x15 x16 x17 (wrap64 (x18 + 1)) x301000 x301001 x301002) else (none)) else (incunableref15_spread.l2 k x1 x3 x4 x5 x13 x14 x15 x16 x17 (wrap64 (x18 + 1)) x301000 x301001 x301002)) else (none)) else (incunableref15_spread.l2 k x1 x3 x4 x5 x13 x14 x15 x16 x17 (wrap64 (x18 + 1)) x301000 x301001 x301002)) else (none)) else (none))
end
def incunableref15_spread.f (k : Nat) (a0_0 : Int) (a0_1 : Int) (l0_2 : List Int) (l1 : List Int) (a2 : Int) (a3 : Int) (a4 : Int) (a5 : Bool) : Option (Int × List Int) := if 0 ≤ a2 then (if a2 < (l1.length : Int) then (incunableref15_spread.l0 k (l1.set (a2 : Int).toNat a3) a3 a4 a5 (([a2] : List Int)) 0 a0_0 a0_1 l0_2) else (none)) else (none)
theorem incunableref15_spread.mono_l : ∀ k, (∀ y0 y1 y2 y3 y4 y5 y6 y7 y8, LeO (incunableref15_spread.l0 k y0 y1 y2 y3 y4 y5 y6 y7 y8) (incunableref15_spread.l0 (k + 1) y0 y1 y2 y3 y4 y5 y6 y7 y8)) ∧ (∀ y0 y1 y2 y3 y4 y5 y6 y7 y8 y9 y10 y11, LeO (incunableref15_spread.l1 k y0 y1 y2 y3 y4 y5 y6 y7 y8 y9 y10 y11) (incunableref15_spread.l1 (k + 1) y0 y1 y2 y3 y4 y5 y6 y7 y8 y9 y10 y11)) ∧ (∀ y0 y1 y2 y3 y4 y5 y6 y7 y8 y9 y10 y11 y12, LeO (incunableref15_spread.l2 k y0 y1 y2 y3 y4 y5 y6 y7 y8 y9 y10 y11 y12) (incunableref15_spread.l2 (k + 1) y0 y1 y2 y3 y4 y5 y6 y7 y8 y9 y10 y11 y12)) ∧ (∀ y0 y1 y2 y3 y4 y5 y6 y7 y8 y9 y10 y11 y12 y13, LeO (incunableref15_spread.j3 k y0 y1 y2 y3 y4 y5 y6 y7 y8 y9 y10 y11 y12 y13) (incunableref15_spread.j3 (k + 1) y0 y1 y2 y3 y4 y5 y6 y7 y8 y9 y10 y11 y12 y13))
 | 0 => ⟨fun _ _ _ _ _ _ _ _ _ r h => by simp [incunableref15_spread.l0] at h, fun _ _ _ _ _ _ _ _ _ _ _ _ r h => by simp [incunableref15_spread.l1] at h, fun _ _ _ _ _ _ _ _ _ _ _ _ _ r h => by simp [incunableref15_spread.l2] at h, fun _ _ _ _ _ _ _ _ _ _ _ _ _ _ r h => by simp [incunableref15_spread.j3] at h⟩
 | k + 1 => by
  obtain ⟨ih0, ih1, ih2, ih3⟩ := incunableref15_spread.mono_l k
  refine ⟨?_, ?_, ?_, ?_⟩
  ·intro y0 y1 y2 y3 y4 y5 y6 y7 y8
   unfold incunableref15_spread.l0
   repeat' first
   | (with_reducible exact ih0 _ _ _ _ _ _ _ _ _)
   | (with_reducible exact ih1 _ _ _ _ _ _ _ _ _ _ _ _)
   | (with_reducible exact ih2 _ _ _ _ _ _ _ _ _ _ _ _ _)
   | (with_reducible exact ih3 _ _ _ _ _ _ _ _ _ _ _ _ _ _)
   | (with_reducible first | exact LeO.refl _ | exact LeO.none _ | refine LeO.ite ?_ ?_ | refine LeO.bind ?_ (fun _ => ?_))
  ·intro y0 y1 y2 y3 y4 y5 y6 y7 y8 y9 y10 y11
   unfold incunableref15_spread.l1
   repeat' first
   | (with_reducible exact ih0 _ _ _ _ _ _ _ _ _)
   | (with_reducible exact ih1 _ _ _ _ _ _ _ _ _ _ _ _)
   | (with_reducible exact ih2 _ _ _ _ _ _ _ _ _ _ _ _ _)
   | (with_reducible exact ih3 _ _ _ _ _ _ _ _ _ _ _ _ _ _)
   | (with_reducible first | exact LeO.refl _ | exact LeO.none _ | refine LeO.ite ?_ ?_ | refine LeO.bind ?_ (fun _ => ?_))
  ·intro y0 y1 y2 y3 y4 y5 y6 y7 y8 y9 y10 y11 y12
   unfold incunableref15_spread.l2
   repeat' first
   | (with_reducible exact ih0 _ _ _ _ _ _ _ _ _)
   | (with_reducible exact ih1 _ _ _ _ _ _ _ _ _ _ _ _)
   | (with_reducible exact ih2 _ _ _ _ _ _ _ _ _ _ _ _ _)
   | (with_reducible exact ih3 _ _ _ _ _ _ _ _ _ _ _ _ _ _)
   | (with_reducible first | exact LeO.refl _ | exact LeO.none _ | refine LeO.ite ?_ ?_ | refine LeO.bind ?_ (fun _ => ?_))
  ·intro y0 y1 y2 y3 y4 y5 y6 y7 y8 y9 y10 y11 y12 y13
   unfold incunableref15_spread.j3
   repeat' first
   | (with_reducible exact ih0 _ _ _ _ _ _ _ _ _)
   | (with_reducible exact ih1 _ _ _ _ _ _ _ _ _ _ _ _)
   | (with_reducible exact ih2 _ _ _ _ _ _ _ _ _ _ _ _ _)
   | (with_reducible exact ih3 _ _ _ _ _ _ _ _ _ _ _ _ _ _)
   | (with_reducible first | exact LeO.refl _ | exact LeO.none _ | refine LeO.ite ?_ ?_ | refine LeO.bind ?_ (fun _ => ?_))
theorem incunableref15_spread.mono : ∀ a0 a1 a2 a3 a4 a5 a6 a7 k, LeO (incunableref15_spread.f k a0 a1 a2 a3 a4 a5 a6 a7) (incunableref15_spread.f (k + 1) a0 a1 a2 a3 a4 a5 a6 a7) := by
 intro a0 a1 a2 a3 a4 a5 a6 a7 k
 obtain ⟨ih0, ih1, ih2, ih3⟩ := incunableref15_spread.mono_l k
 unfold incunableref15_spread.f
 repeat' first
   | (with_reducible exact ih0 _ _ _ _ _ _ _ _ _)
   | (with_reducible exact ih1 _ _ _ _ _ _ _ _ _ _ _ _)
   | (with_reducible exact ih2 _ _ _ _ _ _ _ _ _ _ _ _ _)
   | (with_reducible exact ih3 _ _ _ _ _ _ _ _ _ _ _ _ _ _)
   | (with_reducible first | exact LeO.refl _ | exact LeO.none _ | refine LeO.ite ?_ ?_ | refine LeO.bind ?_ (fun _ => ?_))
set_option maxHeartbeats 8000000 in
set_option maxRecDepth 100000 in
theorem incunableref15_spread.calls (k : Nat) (a0_0 : Int) (a0_1 : Int) (A0_2 : Option Addr) (c0_2 : Nat) (l0_2 : List Int) (P1_ : Nat → Prop) (u9000_ : Value) (l1 : List Int) (a2 : Int) (a3 : Int) (a4 : Int) (a5 : Bool) (r1 : Int) (r2 : List Int) (w0 w : World) (hB : Below w0.heap.size w0 w) (hr0_2 : ∀ W_, Kept w W_ (fun k_ => P1_ k_) → Kd.C (Kd.int .u8) W_ A0_2 l0_2.length l0_2) (hc0_2 : l0_2.length ≤ c0_2) (ho1 : Kd.R (Kd.int .i64) 3 w w0.heap.size P1_ u9000_ l1) (h : incunableref15_spread.f k a0_0 a0_1 l0_2 l1 a2 a3 a4 a5 = some (r1, r2)) :
  Calls Try.prog 33 #[.agg #[.int .i64 a0_0, .int .i64 a0_1, .slice A0_2 l0_2.length c0_2], u9000_, .int .i64 a2, .int .i64 a3, .int .i64 a4, .bool a5] w fun e w' => e = .returned (.int .i64 r1) ∧ Kd.R (Kd.int .i64) 3 w' w0.heap.size (fun k_ => (P1_ k_ ∨ w.heap.size ≤ k_)) u9000_ r2 ∧ Below w0.heap.size w0 w' ∧ Kept w w' (fun k_ => P1_ k_) := by
 have hu24 := Try.underlying24
 have HR0_2 := Aside0.mk hr0_2
 have HC0_2 := Aside0.mk hc0_2
 clear hr0_2 hc0_2
 have HO1 := Aside0.mk (show Kd.R (Kd.int .i64) 3 w w0.heap.size (fun k_ => (P1_ k_ ∨ w.heap.size ≤ k_)) u9000_ l1 from Kd.R_mono ho1 (fun k_ hk => (.inl hk)))
 have HK := Aside0.mk (Kept.refl w (fun k_ => P1_ k_))
 have HW0 := Aside0.mk hB.size
 have HB := Aside0.mk hB
 clear hB
 have H := h
 unfold incunableref15_spread.f at H
 clear h
 by_cases c7 : 0 ≤ a2
 ·rw [if_pos c7] at H
  have c7b0 := decide_eq_true c7
  clear c7
  by_cases c8 : a2 < (l1.length : Int)
  ·rw [if_pos c8] at H
   have c8b0 := decide_eq_true c8
   clear c8
   obtain ⟨y301, hy_⟩ : ∃ y_ : List Int, y_ = (l1.set (a2 : Int).toNat a3) := ⟨_, rfl⟩
   replace H : (incunableref15_spread.l0 k y301 a3 a4 a5 (([a2] : List Int)) 0 a0_0 a0_1 l0_2) = some (r1, r2) := rh
   have Ny301 := aE hy_
   clear hy_
   obtain ⟨y302, hy_⟩ : ∃ y_ : List Int, y_ = (([a2] : List Int)) := ⟨_, rfl⟩
   replace H : (incunableref15_spread.l0 k y301 a3 a4 a5 y302 0 a0_0 a0_1 l0_2) = some (r1, r2) := rh
   have Ny302 := aE hy_
   clear hy_
   have H' := Aside0.mk H
   clear H
   go_enter Try.func33, Try.ntmps33
   go_wp2_with (first | ((with_reducible refine gd 6 rfl ?_); refine bx 6 #[.int .i64 a0_0, .int .i64 a0_1, .slice A0_2 l0_2.length c0_2] 24 rfl rfl ?_; intro gb300 hg w10 hbox hb; have n_ := aC (Kd.R_below (rU HO1.out) hb) (aC (Kept.below (S := (fun k_ => P1_ k_)) (by repeat (first | (with_reducible first | exact HK.out | apply Kept.alloc | apply Kept.drewN | apply Kept.drew) | exact HK.out)) hb) (aC (bs hb) (aC hbox (aC ((by rw [hg]; exact (by first | exact HK.out.1 | exact (show Kept w _ (fun k_ => P1_ k_) from by repeat (first | (with_reducible first | exact HK.out | apply Kept.alloc | apply Kept.drewN | apply Kept.drew) | exact HK.out)).1) : w.heap.size ≤ gb300)) (aE ((by rw [hg]; exact bz : w0.heap.size ≤ gb300))))))); clear HO1 HK HB; obtain ⟨HO1, HK, HB, BK300, GW300, GE300⟩ := n_; clear hb hbox hg; have p9 : 0 ≤ (a2 : Int) := dt; have q9 : (a2 : Int) < ((l1.length : Int) : Int) := dt; obtain ⟨go9, co9, eo9, gb9, gl9, cl9, HG9⟩ := Kd.R_form HO1.out (by omega); (first | cases eo9 | (injection eo9 with ea_ en_ ec_; (first | subst ea_ | (injection ea_ with ea_; subst ea_)); subst ec_; clear en_)); have GB9 := Aside0.mk gb9; have GG9 := Aside0.mk HG9; clear gb9 gl9 HG9; have HMgo9 := Aside0.mk (show (P1_ go9 ∨ w.heap.size ≤ go9) from (HO1.out.1 _ rfl)); obtain ⟨hx9_0, hf9_0⟩ := Kd.R_celln 0 HO1.out (a2 : Int) p9 q9; replace p9 := eq_true p9; replace q9 := eq_true q9; obtain ⟨hy11_, hz11_⟩ := Kd.R_celln 0 HO1.out (a2 : Int) (dt) (dt); have HP11 := Kd.R_putg HO1.out (a2 : Int) a3) | ((with_reducible refine gate_store (t := 3) (p := 23) rfl ?_); (try (rw [drewN_self w10]; generalize hq_ : World.drewN w10 _ = w10; have n0_ := Aside0.mk (Kd.R_at hq_ HO1.out); have n1_ := Aside0.mk (blk_at hq_ BK300.out); have n2_ := Aside0.mk (kept_at hq_ HK.out); have n3_ := Aside0.mk (below_at hq_ HB.out); clear hq_ HO1 BK300 HK HB; have HO1 := n0_; have BK300 := n1_; have HK := n2_; have HB := n3_; clear n0_ n1_ n2_ n3_; (try (obtain ⟨hy11_, hz11_⟩ := Kd.R_celln 0 HO1.out (a2 : Int) (dt) (dt))); (try (have HP11 := Kd.R_putg HO1.out (a2 : Int) a3)))); refine store_event (t := 3) (p := 23) (v := ?vo_w12) (w1 := (w10.setCell ⟨go9, (a2 : Int).toNat, none⟩ (.int .i64 a3))) ?hg ?ho ?hn ?hr ?_; (case ho => rfl); (case hg => rfl); (case hn => rfl); (case hr => first | (go_simp; done) | (go_simp; rfl)); intro w12 hw; have hg : w10.grownBy w12 (some go9) := (by rw [hw]; exact HP11.2); have hp_ : Kd.R (Kd.int .i64) 3 w12 w0.heap.size (fun k_ => (P1_ k_ ∨ w.heap.size ≤ k_)) (.slice (some ⟨go9, 0, none⟩) l1.length co9) y301 := (by rw [hw, Ny301.out]; exact HP11.1); clear HP11; have n_ := aC hp_ (aC (blk_grown (bU BK300.out) hg (Kd.R_ne HO1.out BK300.out (by decide))) (aC ((by rw [hw]; exact below_set (HB.out) GB9.out : Below w0.heap.size w0 w12)) (aE (Kept.of_grown (S := (fun k_ => P1_ k_)) hg (by repeat (first | (with_reducible first | exact HK.out | apply Kept.alloc | apply Kept.drewN | apply Kept.drew | refine Kept.setCell ?_ (.inr GW300.out) _) | exact HK.out)) (fun k_ e_ => (HO1.out.1 k_ e_)))))); clear HO1 BK300 HB HK; obtain ⟨HO1, BK300, HB, HK⟩ := n_; clear hg hw hp_) | ((with_reducible refine gd 25 rfl ?_); refine Kd.R_lit (Kd.int .i64) _ 3 ?hg (N := 25) ?hd (xs := ([a2] : List Int)) (inner := [.int .i64 a2]) (ok := fun _ => True) (okp := fun _ => True) ?hr ?hp (fun _ hk => hk) trivial (Below.refl _ _) (Nat.le_refl _) (by simp) ?_; (case hd => rfl); (case hg => rfl); (case hr => first | (go_simp; done) | (go_simp; rfl)); (case hp => exact (Reps.one (show Kd.M (Kd.int .i64) _ _ _ a2 [.int .i64 a2] from rfl) (Reps.none _ _))); intro v303 w13 ho14 hb hg_ hnew_; clear hg_ hnew_; (first | rw [← Ny302.out] at ho14 | (simp only [Int.reduceToNat] at ho14; rw [← Ny302.out] at ho14)); have n_ := aC (Kd.R_elder' (rU HO1.out) (Kd.R_base ho14) hb) (aC (Kd.R_lower (Kd.R_new' (Kd.R_newM (M := fun k_ => (P1_ k_ ∨ w.heap.size ≤ k_)) ho14 (by first | exact HK.out.1 | exact (show Kept w _ (fun k_ => P1_ k_) from by repeat (first | (with_reducible first | exact HK.out | apply Kept.alloc | apply Kept.drewN | apply Kept.drew | refine Kept.setCell ?_ (.inr GW300.out) _) | exact HK.out)).1) (fun k_ h_ => .inr h_)) (Kd.R_lt (rU HO1.out))) bz) (aC (blk_below (bU BK300.out) hb) (aC (Kept.below (S := (fun k_ => P1_ k_)) (by repeat (first | (with_reducible first | exact HK.out | apply Kept.alloc | apply Kept.drewN | apply Kept.drew | refine Kept.setCell ?_ (.inr GW300.out) _) | exact HK.out)) hb) (aE (bs hb))))); clear HO1 BK300 HK HB; obtain ⟨HO1, HO304, BK300, HK, HB⟩ := n_; clear hb ho14))
   go_loopg [13, 14] k (fun kq v13 v14 w' => ∃ (x1_1 : List Int) (x13_1 : List Int) (x14_1 : Int), v14 = .int .i64 x14_1 ∧ Aside0 (incunableref15_spread.l0 kq x1_1 a3 a4 a5 x13_1 x14_1 a0_0 a0_1 l0_2 = some (r1, r2)) ∧ Aside0 (kq ≤ k) ∧ Aside0 (Kd.R (Kd.int .i64) 3 w' w0.heap.size (fun k_ => (P1_ k_ ∨ w.heap.size ≤ k_) ∧ some k_ ≠ (v13 : Value).ownBlock) (.slice (some ⟨go9, 0, none⟩) l1.length co9) x1_1) ∧ Aside0 (Kd.R (Kd.int .i64) 3 w' w0.heap.size (fun k_ => (P1_ k_ ∨ w.heap.size ≤ k_) ∧ some k_ ≠ ((.slice (some ⟨go9, 0, none⟩) l1.length co9) : Value).ownBlock) v13 x13_1) ∧ Aside0 (w'.heap[gb300]? = some (.cells #[.int .i64 a0_0, .int .i64 a0_1, (.slice A0_2 l0_2.length c0_2)] 24 (0, 0))) ∧ Aside0 (Kept w w' (fun k_ => P1_ k_)) ∧ Aside0 (Below w0.heap.size w0 w'))
   case atStart => exact ⟨(y301), (y302), (0), rq, H', ⟨Nat.le_refl _⟩, ⟨rU HO1.out⟩, ⟨rU (Kd.R_mono HO304.out (fun _ hk => ⟨hk.1.1, hk.2⟩))⟩, ⟨by exact bU BK300.out⟩, ⟨by repeat (first | (with_reducible first | exact HK.out | apply Kept.alloc | apply Kept.drewN | apply Kept.drew | refine Kept.setCell ?_ (.inr GW300.out) _) | exact HK.out)⟩, ⟨bl⟩⟩
   case round =>
    clear H'
    obtain ⟨x1_1, x13_1, x14_1, rfl, HA, HK1, HO_1, HO_13, BK300, HK, HB⟩ := hrel
    have hl1_1 := (Kd.R_reads' HO_1.out).1
    rw [hl1_1] at HO_1
    (try simp only [hl1_1])
    (try simp only [hl1_1] at BK300)
    (try simp only [hl1_1] at HO_13)
    cases gk with
    | zero => exact absurd HA.out (by simp [incunableref15_spread.l0])
    | succ k1 =>
     have H := HA.out
     clear HA
     simp only [incunableref15_spread.l0] at H
     by_cases c15 : x14_1 < (x13_1.length : Int)
     ·rw [if_pos c15] at H
      have c15b0 := decide_eq_true c15
      (try (have c15b0_hl1_1 := c15b0; simp only [hl1_1] at c15b0_hl1_1))
      clear c15
      by_cases c16 : 0 ≤ x14_1
      ·rw [if_pos c16] at H
       have c16b0 := decide_eq_true c16
       clear c16
       by_cases c17 : a0_0 = 0
       ·rw [if_pos c17] at H
        exact absurd H (by simp)
       ·rw [if_neg c17] at H
        have c17b0 := beq_eq_false_iff_ne.mpr c17
        have c17b1 := bne_iff_ne.mpr c17
        have H' := Aside0.mk H
        clear H
        obtain ⟨Ao18, co18, eo18⟩ := Kd.R_slice HO_13.out
        subst eo18
        have p305 : 0 ≤ (x14_1 : Int) := dt
        have q305 : x14_1 < (x13_1.length : Int) := dt
        obtain ⟨ad305, e305, hx305_0⟩ := Kd.at_int (Kd.R_reads' HO_13.out).2.2 x14_1 p305 q305
        cases e305
        replace p305 := eq_true p305
        replace q305 := eq_true q305
        obtain ⟨hcz19_0, hcz19_1, hcz19_2, hfz19_0, hfz19_1, hfz19_2⟩ := cz3f BK300.out
        have p306 : 0 ≤ (x14_1 : Int) := dt
        have q306 : x14_1 < (x13_1.length : Int) := dt
        obtain ⟨ad306, e306, hx306_0⟩ := Kd.at_int (Kd.R_reads' HO_13.out).2.2 x14_1 p306 q306
        obtain rfl : ad305 = ad306 := (by injection e306)
        replace p306 := eq_true p306
        replace q306 := eq_true q306
        go_wp2
        repeat (go_quiet (fail); try go_wp2)
        go_loopg [13, 17] k1 (fun kq v13 v17 w' => ∃ (x1_2 : List Int) (x13_2 : List Int) (x17_2 : Int), v17 = .int .i64 x17_2 ∧ Aside0 (incunableref15_spread.l1 kq x1_2 a3 a4 a5 x13_2 x14_1 (Int.tmod (rd x13_1 x14_1) a0_0) (wrap64 (Int.tdiv (rd x13_1 x14_1) a0_0)) x17_2 a0_0 a0_1 l0_2 = some (r1, r2)) ∧ Aside0 (kq ≤ k1) ∧ Aside0 (Kd.R (Kd.int .i64) 3 w' w0.heap.size (fun k_ => (P1_ k_ ∨ w.heap.size ≤ k_) ∧ some k_ ≠ (v13 : Value).ownBlock) (.slice (some ⟨go9, 0, none⟩) x1_1.length co9) x1_2) ∧ Aside0 (Kd.R (Kd.int .i64) 3 w' w0.heap.size (fun k_ => (P1_ k_ ∨ w.heap.size ≤ k_) ∧ some k_ ≠ ((.slice (some ⟨go9, 0, none⟩) x1_1.length co9) : Value).ownBlock) v13 x13_2) ∧ Aside0 (w'.heap[gb300]? = some (.cells #[.int .i64 a0_0, .int .i64 a0_1, (.slice A0_2 l0_2.length c0_2)] 24 (0, 0))) ∧ Aside0 (Kept w w' (fun k_ => P1_ k_)) ∧ Aside0 (Below w0.heap.size w0 w'))
        case atStart => exact ⟨(x1_1), (x13_1), (wrap64 ((wrap64 (Int.tdiv (rd x13_1 x14_1) a0_0)) - 1)), rq, H', ⟨Nat.le_refl _⟩, ⟨by (try simp only [hl1_1]); (with_reducible repeat (first | apply Kd.R_alloc | apply Kd.R_drewN | apply Kd.R_drew)); exact HO_1.out⟩, ⟨by (try simp only [hl1_1]); (with_reducible repeat (first | apply Kd.R_alloc | apply Kd.R_drewN | apply Kd.R_drew)); exact HO_13.out⟩, ⟨by (try simp only [hl1_1]); exact bU BK300.out⟩, ⟨by repeat (first | (with_reducible first | exact HK.out | apply Kept.alloc | apply Kept.drewN | apply Kept.drew | refine Kept.setCell ?_ (.inr GW300.out) _) | exact HK.out)⟩, ⟨bl⟩⟩
        case round =>
         clear H'
         obtain ⟨x1_2, x13_2, x17_2, rfl, HA, HK2, HO_1, HO_13, BK300, HK, HB⟩ := hrel
         have hl1_2 := (Kd.R_reads' HO_1.out).1
         rw [hl1_2] at HO_1
         (try simp only [hl1_2])
         (try simp only [hl1_2] at BK300)
         (try simp only [hl1_2] at HO_13)
         cases gk with
         | zero => exact absurd HA.out (by simp [incunableref15_spread.l1])
         | succ k2 =>
          have H := HA.out
          clear HA
          simp only [incunableref15_spread.l1] at H
          rcases iL H with H1 | H1 <;> clear H <;> obtain ⟨H, c20b0⟩ := H1
          ·have H' := Aside0.mk H
           clear H
           go_wp2
           go_loopg [13, 18] k2 (fun kq v13 v18 w' => ∃ (x1_3 : List Int) (x13_3 : List Int) (x18_3 : Int), v18 = .int .i64 x18_3 ∧ Aside0 (incunableref15_spread.l2 kq x1_3 a3 a4 a5 x13_3 x14_1 (Int.tmod (rd x13_1 x14_1) a0_0) (wrap64 (Int.tdiv (rd x13_1 x14_1) a0_0)) x17_2 x18_3 a0_0 a0_1 l0_2 = some (r1, r2)) ∧ Aside0 (kq ≤ k2) ∧ Aside0 (Kd.R (Kd.int .i64) 3 w' w0.heap.size (fun k_ => (P1_ k_ ∨ w.heap.size ≤ k_) ∧ some k_ ≠ (v13 : Value).ownBlock) (.slice (some ⟨go9, 0, none⟩) x1_2.length co9) x1_3) ∧ Aside0 (Kd.R (Kd.int .i64) 3 w' w0.heap.size (fun k_ => (P1_ k_ ∨ w.heap.size ≤ k_) ∧ some k_ ≠ ((.slice (some ⟨go9, 0, none⟩) x1_2.length co9) : Value).ownBlock) v13 x13_3) ∧ Aside0 (w'.heap[gb300]? = some (.cells #[.int .i64 a0_0, .int .i64 a0_1, (.slice A0_2 l0_2.length c0_2)] 24 (0, 0))) ∧ Aside0 (Kept w w' (fun k_ => P1_ k_)) ∧ Aside0 (Below w0.heap.size w0 w'))
           case atStart => exact ⟨(x1_2), (x13_2), (wrap64 ((Int.tmod (rd x13_1 x14_1) a0_0) - 1)), rq, H', ⟨Nat.le_refl _⟩, ⟨by (try simp only [hl1_1]); (try simp only [hl1_2]); (with_reducible repeat (first | apply Kd.R_alloc | apply Kd.R_drewN | apply Kd.R_drew)); exact HO_1.out⟩, ⟨by (try simp only [hl1_1]); (try simp only [hl1_2]); (with_reducible repeat (first | apply Kd.R_alloc | apply Kd.R_drewN | apply Kd.R_drew)); exact HO_13.out⟩, ⟨by (try simp only [hl1_1]); (try simp only [hl1_2]); exact bU BK300.out⟩, ⟨by repeat (first | (with_reducible first | exact HK.out | apply Kept.alloc | apply Kept.drewN | apply Kept.drew | refine Kept.setCell ?_ (.inr GW300.out) _) | exact HK.out)⟩, ⟨bl⟩⟩
           case round =>
            clear H'
            obtain ⟨x1_3, x13_3, x18_3, rfl, HA, HK3, HO_1, HO_13, BK300, HK, HB⟩ := hrel
            have hl1_3 := (Kd.R_reads' HO_1.out).1
            rw [hl1_3] at HO_1
            (try simp only [hl1_3])
            (try simp only [hl1_3] at BK300)
            (try simp only [hl1_3] at HO_13)
            cases gk with
            | zero => exact absurd HA.out (by simp [incunableref15_spread.l2])
            | succ k3 =>
             have H := HA.out
             clear HA
             simp only [incunableref15_spread.l2] at H
             rcases iL H with H1 | H1 <;> clear H <;> obtain ⟨H, c21b0⟩ := H1
             ·have HC22 := Aside0.mk H
              clear H
              go_upto_region 13 with (fail)
              go_cut [93] (fun v93 wc => ∃ (kq : Nat) (x93_21 : Bool), v93 = .bool x93_21 ∧ Aside0 (incunableref15_spread.j3 kq x1_3 a3 a4 a5 x13_3 x14_1 (Int.tmod (rd x13_1 x14_1) a0_0) (wrap64 (Int.tdiv (rd x13_1 x14_1) a0_0)) x17_2 x18_3 x93_21 a0_0 a0_1 l0_2 = some (r1, r2)) ∧ Aside0 (kq ≤ k3) ∧ Aside0 (Kd.R (Kd.int .i64) 3 wc w0.heap.size (fun k_ => (P1_ k_ ∨ w.heap.size ≤ k_) ∧ some k_ ≠ (u13 : Value).ownBlock) (.slice (some ⟨go9, 0, none⟩) x1_3.length co9) x1_3) ∧ Aside0 (Kd.R (Kd.int .i64) 3 wc w0.heap.size (fun k_ => (P1_ k_ ∨ w.heap.size ≤ k_) ∧ some k_ ≠ ((.slice (some ⟨go9, 0, none⟩) x1_3.length co9) : Value).ownBlock) u13 x13_3) ∧ Aside0 (wc.heap[gb300]? = some (.cells #[.int .i64 a0_0, .int .i64 a0_1, (.slice A0_2 l0_2.length c0_2)] 24 (0, 0))) ∧ Aside0 (Kept w wc (fun k_ => P1_ k_)) ∧ Aside0 (Below w0.heap.size w0 wc))
              case first =>
               have H := HC22.out
               clear HC22
               rcases iL H with H1 | H1 <;> clear H <;> obtain ⟨H, c23b0⟩ := H1
               ·(first | rw [c23b0] | (simp only [i64_w, i32_w]; rw [c23b0]) | skip)
                have H' := Aside0.mk H
                clear H
                go_wp2
                go_meet
                case rel => exact ⟨_, (true), rq, H', ⟨by have := HK1.out; have := HK2.out; have := HK3.out; first | omega | exact Nat.le_refl _⟩, ⟨by (try simp only [hl1_1]); (try simp only [hl1_2]); (try simp only [hl1_3]); (with_reducible repeat (first | apply Kd.R_alloc | apply Kd.R_drewN | apply Kd.R_drew)); exact HO_1.out⟩, ⟨by (try simp only [hl1_1]); (try simp only [hl1_2]); (try simp only [hl1_3]); (with_reducible repeat (first | apply Kd.R_alloc | apply Kd.R_drewN | apply Kd.R_drew)); exact HO_13.out⟩, ⟨by (try simp only [hl1_1]); (try simp only [hl1_2]); (try simp only [hl1_3]); exact bU BK300.out⟩, ⟨by repeat (first | (with_reducible first | exact HK.out | apply Kept.alloc | apply Kept.drewN | apply Kept.drew | refine Kept.setCell ?_ (.inr GW300.out) _) | exact HK.out)⟩, ⟨bl⟩⟩
               ·(first | rw [c23b0] | (simp only [i64_w, i32_w]; rw [c23b0]) | skip)
                rcases iL H with H1 | H1 <;> clear H <;> obtain ⟨H, c24b0⟩ := H1
                ·have H' := Aside0.mk H
                 clear H
                 go_wp2
                 go_meet
                 case rel => exact ⟨_, (true), rq, H', ⟨by have := HK1.out; have := HK2.out; have := HK3.out; first | omega | exact Nat.le_refl _⟩, ⟨by (try simp only [hl1_1]); (try simp only [hl1_2]); (try simp only [hl1_3]); (with_reducible repeat (first | apply Kd.R_alloc | apply Kd.R_drewN | apply Kd.R_drew)); exact HO_1.out⟩, ⟨by (try simp only [hl1_1]); (try simp only [hl1_2]); (try simp only [hl1_3]); (with_reducible repeat (first | apply Kd.R_alloc | apply Kd.R_drewN | apply Kd.R_drew)); exact HO_13.out⟩, ⟨by (try simp only [hl1_1]); (try simp only [hl1_2]); (try simp only [hl1_3]); exact bU BK300.out⟩, ⟨by repeat (first | (with_reducible first | exact HK.out | apply Kept.alloc | apply Kept.drewN | apply Kept.drew | refine Kept.setCell ?_ (.inr GW300.out) _) | exact HK.out)⟩, ⟨bl⟩⟩
                ·rcases iL H with H1 | H1 <;> clear H <;> obtain ⟨H, c25b0⟩ := H1
                 ·have H' := Aside0.mk H
                  clear H
                  obtain ⟨hcz26_0, hcz26_1, hcz26_2, hfz26_0, hfz26_1, hfz26_2⟩ := cz3f BK300.out
                  go_wp2
                  go_meet
                  case rel => exact ⟨_, (true), rq, H', ⟨by have := HK1.out; have := HK2.out; have := HK3.out; first | omega | exact Nat.le_refl _⟩, ⟨by (try simp only [hl1_1]); (try simp only [hl1_2]); (try simp only [hl1_3]); (with_reducible repeat (first | apply Kd.R_alloc | apply Kd.R_drewN | apply Kd.R_drew)); exact HO_1.out⟩, ⟨by (try simp only [hl1_1]); (try simp only [hl1_2]); (try simp only [hl1_3]); (with_reducible repeat (first | apply Kd.R_alloc | apply Kd.R_drewN | apply Kd.R_drew)); exact HO_13.out⟩, ⟨by (try simp only [hl1_1]); (try simp only [hl1_2]); (try simp only [hl1_3]); exact bU BK300.out⟩, ⟨by repeat (first | (with_reducible first | exact HK.out | apply Kept.alloc | apply Kept.drewN | apply Kept.drew | refine Kept.setCell ?_ (.inr GW300.out) _) | exact HK.out)⟩, ⟨bl⟩⟩
                 ·rcases iL H with H1 | H1 <;> clear H <;> obtain ⟨H, c27b0⟩ := H1
                  ·have H' := Aside0.mk H
                   clear H
                   obtain ⟨hcz28_0, hcz28_1, hcz28_2, hfz28_0, hfz28_1, hfz28_2⟩ := cz3f BK300.out
                   go_wp2
                   go_meet
                   case rel => exact ⟨_, (true), rq, H', ⟨by have := HK1.out; have := HK2.out; have := HK3.out; first | omega | exact Nat.le_refl _⟩, ⟨by (try simp only [hl1_1]); (try simp only [hl1_2]); (try simp only [hl1_3]); (with_reducible repeat (first | apply Kd.R_alloc | apply Kd.R_drewN | apply Kd.R_drew)); exact HO_1.out⟩, ⟨by (try simp only [hl1_1]); (try simp only [hl1_2]); (try simp only [hl1_3]); (with_reducible repeat (first | apply Kd.R_alloc | apply Kd.R_drewN | apply Kd.R_drew)); exact HO_13.out⟩, ⟨by (try simp only [hl1_1]); (try simp only [hl1_2]); (try simp only [hl1_3]); exact bU BK300.out⟩, ⟨by repeat (first | (with_reducible first | exact HK.out | apply Kept.alloc | apply Kept.drewN | apply Kept.drew | refine Kept.setCell ?_ (.inr GW300.out) _) | exact HK.out)⟩, ⟨bl⟩⟩
                  ·by_cases c29 : a5 = true
                   ·subst c29
                    rw [if_pos rfl] at H
                    have H' := Aside0.mk H
                    clear H
                    obtain ⟨hcz30_0, hcz30_1, hcz30_2, hfz30_0, hfz30_1, hfz30_2⟩ := cz3f BK300.out
                    go_wp2
                    go_meet
                    case rel => exact ⟨_, (false), rq, H', ⟨by have := HK1.out; have := HK2.out; have := HK3.out; first | omega | exact Nat.le_refl _⟩, ⟨by (try simp only [hl1_1]); (try simp only [hl1_2]); (try simp only [hl1_3]); (with_reducible repeat (first | apply Kd.R_alloc | apply Kd.R_drewN | apply Kd.R_drew)); exact HO_1.out⟩, ⟨by (try simp only [hl1_1]); (try simp only [hl1_2]); (try simp only [hl1_3]); (with_reducible repeat (first | apply Kd.R_alloc | apply Kd.R_drewN | apply Kd.R_drew)); exact HO_13.out⟩, ⟨by (try simp only [hl1_1]); (try simp only [hl1_2]); (try simp only [hl1_3]); exact bU BK300.out⟩, ⟨by repeat (first | (with_reducible first | exact HK.out | apply Kept.alloc | apply Kept.drewN | apply Kept.drew | refine Kept.setCell ?_ (.inr GW300.out) _) | exact HK.out)⟩, ⟨bl⟩⟩
                   ·replace c29 := Bool.eq_false_iff.mpr c29
                    subst c29
                    rw [if_neg Bool.false_ne_true] at H
                    rcases iE H with H1 | H1 <;> clear H <;> obtain ⟨H, c31b0, c31b1, c31⟩ := H1
                    ·have H' := Aside0.mk H
                     clear H
                     obtain ⟨hcz32_0, hcz32_1, hcz32_2, hfz32_0, hfz32_1, hfz32_2⟩ := cz3f BK300.out
                     go_wp2
                     go_meet
                     case rel => exact ⟨_, (false), rq, H', ⟨by have := HK1.out; have := HK2.out; have := HK3.out; first | omega | exact Nat.le_refl _⟩, ⟨by (try simp only [hl1_1]); (try simp only [hl1_2]); (try simp only [hl1_3]); (with_reducible repeat (first | apply Kd.R_alloc | apply Kd.R_drewN | apply Kd.R_drew)); exact HO_1.out⟩, ⟨by (try simp only [hl1_1]); (try simp only [hl1_2]); (try simp only [hl1_3]); (with_reducible repeat (first | apply Kd.R_alloc | apply Kd.R_drewN | apply Kd.R_drew)); exact HO_13.out⟩, ⟨by (try simp only [hl1_1]); (try simp only [hl1_2]); (try simp only [hl1_3]); exact bU BK300.out⟩, ⟨by repeat (first | (with_reducible first | exact HK.out | apply Kept.alloc | apply Kept.drewN | apply Kept.drew | refine Kept.setCell ?_ (.inr GW300.out) _) | exact HK.out)⟩, ⟨bl⟩⟩
                    ·have H' := Aside0.mk H
                     clear H
                     obtain ⟨hcz33_0, hcz33_1, hcz33_2, hfz33_0, hfz33_1, hfz33_2⟩ := cz3f BK300.out
                     go_wp2
                     go_meet
                     case rel => exact ⟨_, ((x17_2 != (wrap64 (Int.tdiv (rd x13_1 x14_1) a0_0)))), rq, H', ⟨by have := HK1.out; have := HK2.out; have := HK3.out; first | omega | exact Nat.le_refl _⟩, ⟨by (try simp only [hl1_1]); (try simp only [hl1_2]); (try simp only [hl1_3]); (with_reducible repeat (first | apply Kd.R_alloc | apply Kd.R_drewN | apply Kd.R_drew)); exact HO_1.out⟩, ⟨by (try simp only [hl1_1]); (try simp only [hl1_2]); (try simp only [hl1_3]); (with_reducible repeat (first | apply Kd.R_alloc | apply Kd.R_drewN | apply Kd.R_drew)); exact HO_13.out⟩, ⟨by (try simp only [hl1_1]); (try simp only [hl1_2]); (try simp only [hl1_3]); exact bU BK300.out⟩, ⟨by repeat (first | (with_reducible first | exact HK.out | apply Kept.alloc | apply Kept.drewN | apply Kept.drew | refine Kept.setCell ?_ (.inr GW300.out) _) | exact HK.out)⟩, ⟨bl⟩⟩
              case rest =>
               clear HC22
               obtain ⟨kq, x93_21, rfl, HA, HJ21, HO_1, HO_13, BK300, HK, HB⟩ := hcut
               cases kq with
               | zero => exact absurd HA.out (by simp [incunableref15_spread.j3])
               | succ kj21 =>
                have H := HA.out
                clear HA
                simp only [incunableref15_spread.j3] at H
                by_cases c34 : x93_21 = true
                ·subst c34
                 rw [if_pos rfl] at H
                 have H' := Aside0.mk H
                 clear H
                 go_wp2
                 (try simp only [← hl1_3])
                 go_roundg kj21
                 case measure => have := HK1.out; have := HK2.out; have := HK3.out; have := HJ21.out; omega
                 case rel => exact ⟨(x1_3), (x13_3), (wrap64 (x18_3 + 1)), rq, H', ⟨by have := HK1.out; have := HK2.out; have := HK3.out; have := HJ21.out; omega⟩, ⟨by (try simp only [hl1_1]); (try simp only [hl1_2]); (try simp only [hl1_3]); (with_reducible repeat (first | apply Kd.R_alloc | apply Kd.R_drewN | apply Kd.R_drew)); exact HO_1.out⟩, ⟨by (try simp only [hl1_1]); (try simp only [hl1_2]); (try simp only [hl1_3]); (with_reducible repeat (first | apply Kd.R_alloc | apply Kd.R_drewN | apply Kd.R_drew)); exact HO_13.out⟩, ⟨by (try simp only [hl1_1]); (try simp only [hl1_2]); (try simp only [hl1_3]); exact bU BK300.out⟩, ⟨by repeat (first | (with_reducible first | exact HK.out | apply Kept.alloc | apply Kept.drewN | apply Kept.drew | refine Kept.setCell ?_ (.inr GW300.out) _) | exact HK.out)⟩, ⟨bl⟩⟩
                ·replace c34 := Bool.eq_false_iff.mpr c34
                 subst c34
                 rw [if_neg Bool.false_ne_true] at H
                 obtain ⟨ji35, hji35⟩ : ∃ j_ : Int, (wrap64 ((wrap64 (x17_2 * a0_0)) + x18_3)) = j_ := ⟨_, rfl⟩
                 replace H : (if 0 ≤ (ji35) then (if (ji35) < (l0_2.length : Int) then (if (wrap64 (rd l0_2 (ji35))) = a4 then (if (ji35) < (x1_3.length : Int) then (if (rd x1_3 (ji35)) = 0 then (if x13_3.length < 17592186044416 then (incunableref15_spread.l2 kj21 (x1_3.set ((ji35) : Int).toNat a3) a3 a4 a5 (x13_3 ++ [ji35]) x14_1 (Int.tmod (rd x13_1 x14_1) a0_0) (wrap64 (Int.tdiv (rd x13_1 x14_1) a0_0)) x17_2 (wrap64 (x18_3 + 1)) a0_0 a0_1 l0_2) else (none)) else (incunableref15_spread.l2 kj21 x1_3 a3 a4 a5 x13_3 x14_1 (Int.tmod (rd x13_1 x14_1) a0_0) (wrap64 (Int.tdiv (rd x13_1 x14_1) a0_0)) x17_2 (wrap64 (x18_3 + 1)) a0_0 a0_1 l0_2)) else (none)) else (incunableref15_spread.l2 kj21 x1_3 a3 a4 a5 x13_3 x14_1 (Int.tmod (rd x13_1 x14_1) a0_0) (wrap64 (Int.tdiv (rd x13_1 x14_1) a0_0)) x17_2 (wrap64 (x18_3 + 1)) a0_0 a0_1 l0_2)) else (none)) else (none)) = some (r1, r2) := by first | (rw [hji35] at H; exact H) | (simp only [hji35] at H ⊢; exact H)
                 have hji35w : (IntKind.i64.wrap ((wrap64 (x17_2 * a0_0)) + x18_3)) = ji35 := (i64_w _).trans hji35
                 by_cases c36 : 0 ≤ (ji35)
                 ·rw [if_pos c36] at H
                  have c36b0 := decide_eq_true c36
                  clear c36
                  by_cases c37 : (ji35) < (l0_2.length : Int)
                  ·rw [if_pos c37] at H
                   have c37b0 := decide_eq_true c37
                   (try (have c37b0_hl1_1 := c37b0; simp only [hl1_1] at c37b0_hl1_1))
                   (try (have c37b0_hl1_2 := c37b0; simp only [hl1_2] at c37b0_hl1_2))
                   (try (have c37b0_hl1_3 := c37b0; simp only [hl1_3] at c37b0_hl1_3))
                   clear c37
                   rcases iE H with H1 | H1 <;> clear H <;> obtain ⟨H, c38b0, c38b1, c38⟩ := H1
                   ·by_cases c39 : (ji35) < (x1_3.length : Int)
                    ·rw [if_pos c39] at H
                     have c39b0 := decide_eq_true c39
                     (try (have c39b0_hl1_1 := c39b0; simp only [hl1_1] at c39b0_hl1_1))
                     (try (have c39b0_hl1_2 := c39b0; simp only [hl1_2] at c39b0_hl1_2))
                     (try (have c39b0_hl1_3 := c39b0; simp only [hl1_3] at c39b0_hl1_3))
                     clear c39
                     rcases iE H with H1 | H1 <;> clear H <;> obtain ⟨H, c40b0, c40b1, c40⟩ := H1
                     ·obtain ⟨y309, hy_⟩ : ∃ y_ : List Int, y_ = (x1_3.set ((ji35) : Int).toNat a3) := ⟨_, rfl⟩
                      replace H : (if x13_3.length < 17592186044416 then (incunableref15_spread.l2 kj21 y309 a3 a4 a5 (x13_3 ++ [ji35]) x14_1 (Int.tmod (rd x13_1 x14_1) a0_0) (wrap64 (Int.tdiv (rd x13_1 x14_1) a0_0)) x17_2 (wrap64 (x18_3 + 1)) a0_0 a0_1 l0_2) else (none)) = some (r1, r2) := rh
                      have Ny309 := aE hy_
                      clear hy_
                      by_cases c42 : x13_3.length < 17592186044416
                      ·rw [if_pos c42] at H
                       have LMc42 := Aside0.mk c42
                       clear c42
                       obtain ⟨y310, hy_⟩ : ∃ y_ : List Int, y_ = (x13_3 ++ [ji35]) := ⟨_, rfl⟩
                       replace H : (incunableref15_spread.l2 kj21 y309 a3 a4 a5 y310 x14_1 (Int.tmod (rd x13_1 x14_1) a0_0) (wrap64 (Int.tdiv (rd x13_1 x14_1) a0_0)) x17_2 (wrap64 (x18_3 + 1)) a0_0 a0_1 l0_2) = some (r1, r2) := rh
                       have Ny310 := aE hy_
                       clear hy_
                       have H' := Aside0.mk H
                       clear H
                       obtain ⟨hcz43_0, hcz43_1, hcz43_2, hfz43_0, hfz43_1, hfz43_2⟩ := cz3f BK300.out
                       have p307 : 0 ≤ ((ji35) : Int) := dt
                       have q307 : (ji35) < (l0_2.length : Int) := dt
                       obtain ⟨ad307, e307, hx307_0⟩ := Kd.at_int (Kd.C_kept_now HR0_2.out HK.out) (ji35) p307 q307
                       cases e307
                       replace p307 := eq_true p307
                       replace q307 := eq_true q307
                       have p308 : 0 ≤ ((ji35) : Int) := dt
                       have q308 : (ji35) < (x1_3.length : Int) := dt
                       obtain ⟨ad308, e308, hx308_0⟩ := Kd.at_int (Kd.R_reads' HO_1.out).2.2 (ji35) p308 q308
                       obtain rfl : (⟨go9, 0, none⟩ : Addr) = ad308 := (by injection e308)
                       (first | simp only [add_plain] at hx308_0 | simp only [add_at] at hx308_0 | simp only [Addr.add, Nat.zero_add] at hx308_0 | skip)
                       replace p308 := eq_true p308
                       replace q308 := eq_true q308
                       have p41 : 0 ≤ ((ji35) : Int) := dt
                       have q41 : ((ji35) : Int) < ((x1_3.length : Int) : Int) := dt
                       obtain ⟨hx41_0, hf41_0⟩ := Kd.R_celln 0 HO_1.out ((ji35) : Int) p41 q41
                       replace p41 := eq_true p41
                       replace q41 := eq_true q41
                       have HP44 := Kd.R_putg HO_1.out ((ji35) : Int) a3
                       go_wp2_with (first | ((with_reducible refine gate_store (t := 3) (p := 118) rfl ?_); (try (rw [drewN_self wc]; generalize hq_ : World.drewN wc _ = wc; have n0_ := Aside0.mk (Kd.R_at hq_ HO_1.out); have n1_ := Aside0.mk (Kd.R_at hq_ HO_13.out); have n2_ := Aside0.mk (blk_at hq_ BK300.out); have n3_ := Aside0.mk (kept_at hq_ HK.out); have n4_ := Aside0.mk (below_at hq_ HB.out); clear hq_ HO_1 HO_13 BK300 HK HB; have HO_1 := n0_; have HO_13 := n1_; have BK300 := n2_; have HK := n3_; have HB := n4_; clear n0_ n1_ n2_ n3_ n4_; (try (have HP44 := Kd.R_putg HO_1.out ((ji35) : Int) a3)); (try (obtain ⟨hx41_0, hf41_0⟩ := Kd.R_celln 0 HO_1.out ((ji35) : Int) (of_eq_true p41) (of_eq_true q41))))); refine store_event (t := 3) (p := 118) (v := ?vo_w45) (w1 := (wc.setCell ⟨go9, ((ji35) : Int).toNat, none⟩ (.int .i64 a3))) ?hg ?ho ?hn ?hr ?_; (case ho => rfl); (case hg => rfl); (case hn => rfl); (case hr => first | (go_simp; done) | (go_simp; rfl)); intro w45 hw; have hg : wc.grownBy w45 (some go9) := (by rw [hw]; exact HP44.2); have hp_ : Kd.R (Kd.int .i64) 3 w45 w0.heap.size (fun k_ => (P1_ k_ ∨ w.heap.size ≤ k_) ∧ some k_ ≠ (u13 : Value).ownBlock) (.slice (some ⟨go9, 0, none⟩) x1_3.length co9) y309 := (by rw [hw, Ny309.out]; exact HP44.1); clear HP44; have n_ := aC hp_ (aC (Kd.R_after (v := (.slice (some ⟨go9, 0, none⟩) x1_3.length co9)) (v1 := (.slice (some ⟨go9, 0, none⟩) x1_3.length co9)) (ok := (fun k_ => (P1_ k_ ∨ w.heap.size ≤ k_))) (rU HO_13.out) hg (.inl rfl)) (aC (blk_grown (bU BK300.out) hg (Kd.R_ne HO_1.out BK300.out (by decide))) (aC ((by rw [hw]; exact below_set (HB.out) GB9.out : Below w0.heap.size w0 w45)) (aE (Kept.of_grown (S := (fun k_ => P1_ k_)) hg (by repeat (first | (with_reducible first | exact HK.out | apply Kept.alloc | apply Kept.drewN | apply Kept.drew | refine Kept.setCell ?_ (.inr GW300.out) _) | exact HK.out)) (fun k_ e_ => (HO_1.out.1 k_ e_).1)))))); clear HO_1 HO_13 BK300 HB HK; obtain ⟨HO_1, HO_13, BK300, HB, HK⟩ := n_; clear hg hw hp_) | ((with_reducible refine gate_builtin (b := .append) (xs := #[.tmp 119, .tmp 121]) rfl ?_); at_builtin; refine Kd.R_append (Kd.int .i64) (w0 := w0) w0.heap.size rfl (.tmp 119) (.tmp 121) 38 3 (.int .i64 0) 8 rfl Try.underlying38 info3 rfl (by decide) (by omega) u13 x13_3 ji35 [.int .i64 ji35] (fun k_ => (P1_ k_ ∨ w.heap.size ≤ k_) ∧ some k_ ≠ (.slice (some ⟨go9, 0, none⟩) x1_3.length co9 : Value).ownBlock) (fun _ => False) rfl rfl ?aP (fun _ hk => hk.elim) ?aF ?aO ?aB ?aS ?aL ?_; (case aP => exact rfl); (case aB => exact bl); (case aF => exact (fun k_ hk => ⟨(.inr (Nat.le_trans (by first | exact HK.out.1 | exact (show Kept w _ (fun k_ => P1_ k_) from by repeat (first | (with_reducible first | exact HK.out | apply Kept.alloc | apply Kept.drewN | apply Kept.drew | refine Kept.setCell ?_ (.inr GW300.out) _) | exact HK.out)).1) hk)), Kd.fresh' (Kd.R_lt (rU HO_1.out)) k_ hk⟩)); (case aO => exact (rU HO_13.out)); (case aS => exact bz); (case aL => have := LMc42.out; omega); intro v311 w46 ho hb hg hat; rw [← Ny310.out] at ho; have n_ := aC (Kd.R_after (ok := (fun k_ => (P1_ k_ ∨ w.heap.size ≤ k_))) (rU HO_1.out) hg hat) (aC (blk_grown (bU BK300.out) hg (Kd.R_ne HO_13.out BK300.out (by decide))) (aC hb (aC (Kept.of_grown (S := (fun k_ => P1_ k_)) hg (by repeat (first | (with_reducible first | exact HK.out | apply Kept.alloc | apply Kept.drewN | apply Kept.drew | refine Kept.setCell ?_ (.inr GW300.out) _) | exact HK.out)) (fun k_ e_ => (HO_13.out.1 k_ e_).1)) (aE ho)))); clear HO_1 BK300 HB HK HO_13; obtain ⟨HO_1, BK300, HB, HK, HO312⟩ := n_; clear ho hb hg hat))
                       (try simp only [← hl1_3])
                       go_roundg kj21
                       case measure => have := HK1.out; have := HK2.out; have := HK3.out; have := HJ21.out; omega
                       case rel => exact ⟨(y309), (y310), (wrap64 (x18_3 + 1)), rq, H', ⟨by have := HK1.out; have := HK2.out; have := HK3.out; have := HJ21.out; omega⟩, ⟨by (try simp only [hl1_1]); (try simp only [hl1_2]); (try simp only [hl1_3]); (with_reducible repeat (first | apply Kd.R_alloc | apply Kd.R_drewN | apply Kd.R_drew)); exact HO_1.out⟩, ⟨by (try simp only [hl1_1]); (try simp only [hl1_2]); (try simp only [hl1_3]); (with_reducible repeat (first | apply Kd.R_alloc | apply Kd.R_drewN | apply Kd.R_drew)); exact HO312.out⟩, ⟨by (try simp only [hl1_1]); (try simp only [hl1_2]); (try simp only [hl1_3]); exact bU BK300.out⟩, ⟨by repeat (first | (with_reducible first | exact HK.out | apply Kept.alloc | apply Kept.drewN | apply Kept.drew | refine Kept.setCell ?_ (.inr GW300.out) _) | exact HK.out)⟩, ⟨bl⟩⟩
                      ·rw [if_neg c42] at H
                       exact absurd H (by simp)
                     ·have H' := Aside0.mk H
                      clear H
                      obtain ⟨hcz47_0, hcz47_1, hcz47_2, hfz47_0, hfz47_1, hfz47_2⟩ := cz3f BK300.out
                      have p307 : 0 ≤ ((ji35) : Int) := dt
                      have q307 : (ji35) < (l0_2.length : Int) := dt
                      obtain ⟨ad307, e307, hx307_0⟩ := Kd.at_int (Kd.C_kept_now HR0_2.out HK.out) (ji35) p307 q307
                      cases e307
                      replace p307 := eq_true p307
                      replace q307 := eq_true q307
                      have p308 : 0 ≤ ((ji35) : Int) := dt
                      have q308 : (ji35) < (x1_3.length : Int) := dt
                      obtain ⟨ad308, e308, hx308_0⟩ := Kd.at_int (Kd.R_reads' HO_1.out).2.2 (ji35) p308 q308
                      obtain rfl : (⟨go9, 0, none⟩ : Addr) = ad308 := (by injection e308)
                      (first | simp only [add_plain] at hx308_0 | simp only [add_at] at hx308_0 | simp only [Addr.add, Nat.zero_add] at hx308_0 | skip)
                      replace p308 := eq_true p308
                      replace q308 := eq_true q308
                      go_wp2
                      (try simp only [← hl1_3])
                      go_roundg kj21
                      case measure => have := HK1.out; have := HK2.out; have := HK3.out; have := HJ21.out; omega
                      case rel => exact ⟨(x1_3), (x13_3), (wrap64 (x18_3 + 1)), rq, H', ⟨by have := HK1.out; have := HK2.out; have := HK3.out; have := HJ21.out; omega⟩, ⟨by (try simp only [hl1_1]); (try simp only [hl1_2]); (try simp only [hl1_3]); (with_reducible repeat (first | apply Kd.R_alloc | apply Kd.R_drewN | apply Kd.R_drew)); exact HO_1.out⟩, ⟨by (try simp only [hl1_1]); (try simp only [hl1_2]); (try simp only [hl1_3]); (with_reducible repeat (first | apply Kd.R_alloc | apply Kd.R_drewN | apply Kd.R_drew)); exact HO_13.out⟩, ⟨by (try simp only [hl1_1]); (try simp only [hl1_2]); (try simp only [hl1_3]); exact bU BK300.out⟩, ⟨by repeat (first | (with_reducible first | exact HK.out | apply Kept.alloc | apply Kept.drewN | apply Kept.drew | refine Kept.setCell ?_ (.inr GW300.out) _) | exact HK.out)⟩, ⟨bl⟩⟩
                    ·rw [if_neg c39] at H
                     exact absurd H (by simp)
                   ·have H' := Aside0.mk H
                    clear H
                    obtain ⟨hcz48_0, hcz48_1, hcz48_2, hfz48_0, hfz48_1, hfz48_2⟩ := cz3f BK300.out
                    have p307 : 0 ≤ ((ji35) : Int) := dt
                    have q307 : (ji35) < (l0_2.length : Int) := dt
                    obtain ⟨ad307, e307, hx307_0⟩ := Kd.at_int (Kd.C_kept_now HR0_2.out HK.out) (ji35) p307 q307
                    cases e307
                    replace p307 := eq_true p307
                    replace q307 := eq_true q307
                    go_wp2
                    (try simp only [← hl1_3])
                    go_roundg kj21
                    case measure => have := HK1.out; have := HK2.out; have := HK3.out; have := HJ21.out; omega
                    case rel => exact ⟨(x1_3), (x13_3), (wrap64 (x18_3 + 1)), rq, H', ⟨by have := HK1.out; have := HK2.out; have := HK3.out; have := HJ21.out; omega⟩, ⟨by (try simp only [hl1_1]); (try simp only [hl1_2]); (try simp only [hl1_3]); (with_reducible repeat (first | apply Kd.R_alloc | apply Kd.R_drewN | apply Kd.R_drew)); exact HO_1.out⟩, ⟨by (try simp only [hl1_1]); (try simp only [hl1_2]); (try simp only [hl1_3]); (with_reducible repeat (first | apply Kd.R_alloc | apply Kd.R_drewN | apply Kd.R_drew)); exact HO_13.out⟩, ⟨by (try simp only [hl1_1]); (try simp only [hl1_2]); (try simp only [hl1_3]); exact bU BK300.out⟩, ⟨by repeat (first | (with_reducible first | exact HK.out | apply Kept.alloc | apply Kept.drewN | apply Kept.drew | refine Kept.setCell ?_ (.inr GW300.out) _) | exact HK.out)⟩, ⟨bl⟩⟩
                  ·rw [if_neg c37] at H
                   exact absurd H (by simp)
                 ·rw [if_neg c36] at H
                  exact absurd H (by simp)
             ·have H' := Aside0.mk H
              clear H
              go_wp2
              (try simp only [← hl1_2, ← hl1_3])
              go_roundg k3
              case measure => have := HK1.out; have := HK2.out; have := HK3.out; omega
              case rel => exact ⟨(x1_3), (x13_3), (wrap64 (x17_2 + 1)), rq, H', ⟨by have := HK1.out; have := HK2.out; have := HK3.out; omega⟩, ⟨by (try simp only [hl1_1]); (try simp only [hl1_2]); (try simp only [hl1_3]); (with_reducible repeat (first | apply Kd.R_alloc | apply Kd.R_drewN | apply Kd.R_drew)); exact HO_1.out⟩, ⟨by (try simp only [hl1_1]); (try simp only [hl1_2]); (try simp only [hl1_3]); (with_reducible repeat (first | apply Kd.R_alloc | apply Kd.R_drewN | apply Kd.R_drew)); exact HO_13.out⟩, ⟨by (try simp only [hl1_1]); (try simp only [hl1_2]); (try simp only [hl1_3]); exact bU BK300.out⟩, ⟨by repeat (first | (with_reducible first | exact HK.out | apply Kept.alloc | apply Kept.drewN | apply Kept.drew | refine Kept.setCell ?_ (.inr GW300.out) _) | exact HK.out)⟩, ⟨bl⟩⟩
          ·have H' := Aside0.mk H
           clear H
           go_wp2
           (try simp only [← hl1_1, ← hl1_2])
           go_roundg k2
           case measure => have := HK1.out; have := HK2.out; omega
           case rel => exact ⟨(x1_2), (x13_2), (wrap64 (x14_1 + 1)), rq, H', ⟨by have := HK1.out; have := HK2.out; omega⟩, ⟨by (try simp only [hl1_1]); (try simp only [hl1_2]); (with_reducible repeat (first | apply Kd.R_alloc | apply Kd.R_drewN | apply Kd.R_drew)); exact HO_1.out⟩, ⟨by (try simp only [hl1_1]); (try simp only [hl1_2]); (with_reducible repeat (first | apply Kd.R_alloc | apply Kd.R_drewN | apply Kd.R_drew)); exact HO_13.out⟩, ⟨by (try simp only [hl1_1]); (try simp only [hl1_2]); exact bU BK300.out⟩, ⟨by repeat (first | (with_reducible first | exact HK.out | apply Kept.alloc | apply Kept.drewN | apply Kept.drew | refine Kept.setCell ?_ (.inr GW300.out) _) | exact HK.out)⟩, ⟨bl⟩⟩
      ·rw [if_neg c16] at H
       exact absurd H (by simp)
     ·rw [if_neg c15] at H
      have c15b0 := decide_eq_false c15
      (try (have c15b0_hl1_1 := c15b0; simp only [hl1_1] at c15b0_hl1_1))
      clear c15
      simp only [Option.some.injEq, Prod.mk.injEq] at H
      obtain ⟨rfl, rfl⟩ := H
      obtain ⟨Ao49, co49, eo49⟩ := Kd.R_slice HO_13.out
      subst eo49
      go_wp2
      go_ret
      exact ⟨re, (by first | exact (rU (Kd.R_mono HO_1.out (fun _ hk => hk.1))) | (simp only [hl1_1]; exact (rU (Kd.R_mono HO_1.out (fun _ hk => hk.1))))), bl, by repeat (first | (with_reducible first | exact HK.out | apply Kept.alloc | apply Kept.drewN | apply Kept.drew | refine Kept.setCell ?_ (.inr GW300.out) _) | exact HK.out)⟩
  ·rw [if_neg c8] at H
   exact absurd H (by simp)
 ·rw [if_neg c7] at H
  exact absurd H (by simp)
end Go.Proofs.Ytnnbfkmmjclhaaa.PScanSpecks
