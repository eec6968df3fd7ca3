-- Written by a program of this session (wip/tools/myprint.py) over the kit's print. Not trusted: Lean checks it.
import Derived.Test.YtaflekobfbgedaaPShapeComponentsx0
namespace Go.Proofs.Ytaflekobfbgedaa.PShapeComponents
open Go.RowKit Go.Proofs.YtaflekobfbgedaaW.PrintWords Go.Proofs.YtaflekobfbgedaaW.PrintLast Go.Proofs.YtaflekobfbgedaaW.PrintMore
attribute [local go_sem] max2_int min2_int max_two min_two max_three min_three max_four min_four   -- for this text's walks alone
set_option linter.unusedVariables false
set_option linter.unusedSimpArgs false

/-! ### incunableref15_spread: function 44 -/
mutual
def incunableref15_spread.l0 : Nat → List Int → Int → Int → Bool → List Int → Int → Int → Int → List Int → Option (Int × List Int)
 | 0, _, _, _, _, _, _, _, _, _ => none
 | k + 1, x1, x3, x4, x5, x13, x14, x237000, x237001, x237002 => if x14 < (x13.length : Int) then (if 0 ≤ x14 then (if x237000 = 0 then (none) else (incunableref15_spread.l1 k x1 x3 x4 x5 x13 x14 (Int.tmod (rd x13 x14) x237000) (wrap64 (Int.tdiv (rd x13 x14) x237000)) (wrap64 ((wrap64 (Int.tdiv (rd x13 x14) x237000)) - 1)) x237000 x237001 x237002)) else (none)) else (some ((x13.length : Int), x1))
def incunableref15_spread.l1 : Nat → List Int → Int → Int → Bool → List Int → Int → Int → Int → Int → Int → Int → List Int → Option (Int × List Int)
 | 0, _, _, _, _, _, _, _, _, _, _, _, _ => none
 | k + 1, x1, x3, x4, x5, x13, x14, x15, x16, x17, x237000, x237001, x237002 => if x17 ≤ (wrap64 (x16 + 1)) then (incunableref15_spread.l2 k x1 x3 x4 x5 x13 x14 x15 x16 x17 (wrap64 (x15 - 1)) x237000 x237001 x237002) else (incunableref15_spread.l0 k x1 x3 x4 x5 x13 (wrap64 (x14 + 1)) x237000 x237001 x237002)
def incunableref15_spread.l2 : Nat → List Int → Int → Int → Bool → List Int → Int → Int → Int → Int → Int → Int → Int → List Int → Option (Int × List Int)
 | 0, _, _, _, _, _, _, _, _, _, _, _, _, _ => none
 | k + 1, x1, x3, x4, x5, x13, x14, x15, x16, x17, x18, x237000, x237001, x237002 => if x18 ≤ (wrap64 (x15 + 1)) then (if x18 < 0 then (incunableref15_spread.j3 k x1 x3 x4 x5 x13 x14 x15 x16 x17 x18 true x237000 x237001 x237002) else (if x17 < 0 then (incunableref15_spread.j3 k x1 x3 x4 x5 x13 x14 x15 x16 x17 x18 true x237000 x237001 x237002) else (if x18 ≥ x237000 then (incunableref15_spread.j3 k x1 x3 x4 x5 x13 x14 x15 x16 x17 x18 true x237000 x237001 x237002) else (if x17 ≥ x237001 then (incunableref15_spread.j3 k x1 x3 x4 x5 x13 x14 x15 x16 x17 x18 true x237000 x237001 x237002) else (if x5 = true then (incunableref15_spread.j3 k x1 x3 x4 x5 x13 x14 x15 x16 x17 x18 false x237000 x237001 x237002) else (if x18 = x15 then (incunableref15_spread.j3 k x1 x3 x4 x5 x13 x14 x15 x16 x17 x18 false x237000 x237001 x237002) else (incunableref15_spread.j3 k x1 x3 x4 x5 x13 x14 x15 x16 x17 x18 (x17 != x16) x237000 x237001 x237002))))))) else (incunableref15_spread.l1 k x1 x3 x4 x5 x13 x14 x15 x16 (wrap64 (x17 + 1)) x237000 x237001 x237002)
def incunableref15_spread.j3 : Nat → List Int → Int → Int → Bool → List Int → Int → Int → Int → Int → Int → Bool → Int → Int → List Int → Option (Int × List Int)
 | 0, _, _, _, _, _, _, _, _, _, _, _, _, _, _ => none
 | k + 1, x1, x3, x4, x5, x13, x14, x15, x16, x17, x18, x93, x237000, x237001, x237002 => if x93 = true then (incunableref15_spread.l2 k x1 x3 x4 x5 x13 x14 x15 x16 x17 (wrap64 (x18 + 1)) x237000 x237001 x237002) else (if 0 ≤ (wrap64 ((wrap64 (x17 * x237000)) + x18)) then (if (wrap64 ((wrap64 (x17 * x237000)) + x18)) < (x237002.length : Int) then (if (wrap64 (rd x237002 (wrap64 ((wrap64 (x17 * x237000)) + x18)))) = x4 then (if (wrap64 ((wrap64 (x17 * x237000)) + x18)) < (x1.length : Int) then (if (rd x1 (wrap64 ((wrap64 (x17 * x237000)) + x18))) = 0 then (if x13.length < 17592186044416 then (incunableref15_spread.l2 k (x1.set ((wrap64 ((wrap64 (x17 * x237000)) + x18)) : Int).toNat x3) x3 x4 x5 (x13 ++ [wrap64 ((wrap64 (x17 * x237000)) + x18)]) x14 x15 x16 x17 (wrap64 (x18 + 1)) x237000 x237001 x237002) else (none)) else (incunableref15_spread.l2 k x1 x3 x4 x5 x13 x14 x15 x16 x17 (wrap64 (x18 + 1)) x237000 x237001 x237002)) else (none)) else (incunableref15_spread.l2 k x1 x3 x4 x5 x13 x14 x15 x16 x17 (wrap64 (x18 + 1)) x237000 x237001 x237002)) else (none)) else (none))
end
def incunableref15_spread.f (k : Nat) (a0_0 : Int) (a0_1 : Int) (l0_2 : List Int) (l1 : List Int) (a2 : Int) (a3 : Int) (a4 : Int) (a5 : Bool) : Option (Int × List Int) := if 0 ≤ a2 then (if a2 < (l1.length : Int) then (incunableref15_spread.l0 k (l1.set (a2 : Int).toNat a3) a3 a4 a5 (([a2] : List Int)) 0 a0_0 a0_1 l0_2) else (none)) else (none)
theorem incunableref15_spread.mono_l : ∀ k, (∀ y0 y1 y2 y3 y4 y5 y6 y7 y8, LeO (incunableref15_spread.l0 k y0 y1 y2 y3 y4 y5 y6 y7 y8) (incunableref15_spread.l0 (k + 1) y0 y1 y2 y3 y4 y5 y6 y7 y8)) ∧ (∀ y0 y1 y2 y3 y4 y5 y6 y7 y8 y9 y10 y11, LeO (incunableref15_spread.l1 k y0 y1 y2 y3 y4 y5 y6 y7 y8 y9 y10 y11) (incunableref15_spread.l1 (k + 1) y0 y1 y2 y3 y4 y5 y6 y7 y8 y9 y10 y11)) ∧ (∀ y0 y1 y2 y3 y4 y5 y6 y7 y8 y9 y10 y11 y12, LeO (incunableref15_spread.l2 k y0 y1 y2 y3 y4 y5 y6 y7 y8 y9 y10 y11 y12) (incunableref15_spread.l2 (k + 1) y0 y1 y2 y3 y4 y5 y6 y7 y8 y9 y10 y11 y12)) ∧ (∀ y0 y1 y2 y3 y4 y5 y6 y7 y8 y9 y10 y11 y12 y13, LeO (incunableref15_spread.j3 k y0 y1 y2 y3 y4 y5 y6 y7 y8 y9 y10 y11 y12 y13) (incunableref15_spread.j3 (k + 1) y0 y1 y2 y3 y4 y5 y6 y7 y8 y9 y10 y11 y12 y13))
 | 0 => ⟨fun _ _ _ _ _ _ _ _ _ r h => by simp [incunableref15_spread.l0] at h, fun _ _ _ _ _ _ _ _ _ _ _ _ r h => by simp [incunableref15_spread.l1] at h, fun _ _ _ _ _ _ _ _ _ _ _ _ _ r h => by simp [incunableref15_spread.l2] at h, fun _ _ _ _ _ _ _ _ _ _ _ _ _ _ r h => by simp [incunableref15_spread.j3] at h⟩
 | k + 1 => by
  obtain ⟨ih0, ih1, ih2, ih3⟩ := incunableref15_spread.mono_l k
  refine ⟨?_, ?_, ?_, ?_⟩
  ·intro y0 y1 y2 y3 y4 y5 y6 y7 y8
   unfold incunableref15_spread.l0
   repeat' first
   | (with_reducible exact ih0 _ _ _ _ _ _ _ _ _)
   | (with_reducible exact ih1 _ _ _ _ _ _ _ _ _ _ _ _)
   | (with_reducible exact ih2 _ _ _ _ _ _ _ _ _ _ _ _ _)
   | (with_reducible exact ih3 _ _ _ _ _ _ _ _ _ _ _ _ _ _)
   | (with_reducible exact LeO.refl _)
   | (with_reducible exact LeO.none _)
   | (with_reducible refine LeO.ite ?_ ?_)
   | (with_reducible refine LeO.bind ?_ (fun _ => ?_))
   | exact ih0 _ _ _ _ _ _ _ _ _
   | exact ih1 _ _ _ _ _ _ _ _ _ _ _ _
   | exact ih2 _ _ _ _ _ _ _ _ _ _ _ _ _
   | exact ih3 _ _ _ _ _ _ _ _ _ _ _ _ _ _
   | exact LeO.none _
   | refine LeO.ite ?_ ?_
   | refine LeO.bind ?_ (fun _ => ?_)
  ·intro y0 y1 y2 y3 y4 y5 y6 y7 y8 y9 y10 y11
   unfold incunableref15_spread.l1
   repeat' first
   | (with_reducible exact ih0 _ _ _ _ _ _ _ _ _)
   | (with_reducible exact ih1 _ _ _ _ _ _ _ _ _ _ _ _)
   | (with_reducible exact ih2 _ _ _ _ _ _ _ _ _ _ _ _ _)
   | (with_reducible exact ih3 _ _ _ _ _ _ _ _ _ _ _ _ _ _)
   | (with_reducible exact LeO.refl _)
   | (with_reducible exact LeO.none _)
   | (with_reducible refine LeO.ite ?_ ?_)
   | (with_reducible refine LeO.bind ?_ (fun _ => ?_))
   | exact ih0 _ _ _ _ _ _ _ _ _
   | exact ih1 _ _ _ _ _ _ _ _ _ _ _ _
   | exact ih2 _ _ _ _ _ _ _ _ _ _ _ _ _
   | exact ih3 _ _ _ _ _ _ _ _ _ _ _ _ _ _
   | exact LeO.none _
   | refine LeO.ite ?_ ?_
   | refine LeO.bind ?_ (fun _ => ?_)
  ·intro y0 y1 y2 y3 y4 y5 y6 y7 y8 y9 y10 y11 y12
   unfold incunableref15_spread.l2
   repeat' first
   | (with_reducible exact ih0 _ _ _ _ _ _ _ _ _)
   | (with_reducible exact ih1 _ _ _ _ _ _ _ _ _ _ _ _)
   | (with_reducible exact ih2 _ _ _ _ _ _ _ _ _ _ _ _ _)
   | (with_reducible exact ih3 _ _ _ _ _ _ _ _ _ _ _ _ _ _)
   | (with_reducible exact LeO.refl _)
   | (with_reducible exact LeO.none _)
   | (with_reducible refine LeO.ite ?_ ?_)
   | (with_reducible refine LeO.bind ?_ (fun _ => ?_))
   | exact ih0 _ _ _ _ _ _ _ _ _
   | exact ih1 _ _ _ _ _ _ _ _ _ _ _ _
   | exact ih2 _ _ _ _ _ _ _ _ _ _ _ _ _
   | exact ih3 _ _ _ _ _ _ _ _ _ _ _ _ _ _
   | exact LeO.none _
   | refine LeO.ite ?_ ?_
   | refine LeO.bind ?_ (fun _ => ?_)
  ·intro y0 y1 y2 y3 y4 y5 y6 y7 y8 y9 y10 y11 y12 y13
   unfold incunableref15_spread.j3
   repeat' first
   | (with_reducible exact ih0 _ _ _ _ _ _ _ _ _)
   | (with_reducible exact ih1 _ _ _ _ _ _ _ _ _ _ _ _)
   | (with_reducible exact ih2 _ _ _ _ _ _ _ _ _ _ _ _ _)
   | (with_reducible exact ih3 _ _ _ _ _ _ _ _ _ _ _ _ _ _)
   | (with_reducible exact LeO.refl _)
   | (with_reducible exact LeO.none _)
   | (with_reducible refine LeO.ite ?_ ?_)
   | (with_reducible refine LeO.bind ?_ (fun _ => ?_))
   | exact ih0 _ _ _ _ _ _ _ _ _
   | exact ih1 _ _ _ _ _ _ _ _ _ _ _ _
   | exact ih2 _ _ _ _ _ _ _ _ _ _ _ _ _
   | exact ih3 _ _ _ _ _ _ _ _ _ _ _ _ _ _
   | exact LeO.none _
   | refine LeO.ite ?_ ?_
   | refine LeO.bind ?_ (fun _ => ?_)
theorem incunableref15_spread.mono : ∀ a0 a1 a2 a3 a4 a5 a6 a7 k, LeO (incunableref15_spread.f k a0 a1 a2 a3 a4 a5 a6 a7) (incunableref15_spread.f (k + 1) a0 a1 a2 a3 a4 a5 a6 a7) := by
 intro a0 a1 a2 a3 a4 a5 a6 a7 k
 obtain ⟨ih0, ih1, ih2, ih3⟩ := incunableref15_spread.mono_l k
 unfold incunableref15_spread.f
 repeat' first
   | (with_reducible exact ih0 _ _ _ _ _ _ _ _ _)
   | (with_reducible exact ih1 _ _ _ _ _ _ _ _ _ _ _ _)
   | (with_reducible exact ih2 _ _ _ _ _ _ _ _ _ _ _ _ _)
   | (with_reducible exact ih3 _ _ _ _ _ _ _ _ _ _ _ _ _ _)
   | (with_reducible exact LeO.refl _)
   | (with_reducible exact LeO.none _)
   | (with_reducible refine LeO.ite ?_ ?_)
   | (with_reducible refine LeO.bind ?_ (fun _ => ?_))
   | exact ih0 _ _ _ _ _ _ _ _ _
   | exact ih1 _ _ _ _ _ _ _ _ _ _ _ _
   | exact ih2 _ _ _ _ _ _ _ _ _ _ _ _ _
   | exact ih3 _ _ _ _ _ _ _ _ _ _ _ _ _ _
   | exact LeO.none _
   | refine LeO.ite ?_ ?_
   | refine LeO.bind ?_ (fun _ => ?_)
set_option maxHeartbeats 8000000 in
set_option maxRecDepth 100000 in
theorem incunableref15_spread.calls (k : Nat) (a0_0 : Int) (a0_1 : Int) (A0_2 : Option Addr) (c0_2 : Nat) (l0_2 : List Int) (P1_ : Nat → Prop) (u9000_ : Value) (l1 : List Int) (a2 : Int) (a3 : Int) (a4 : Int) (a5 : Bool) (r1 : Int) (r2 : List Int) (w0 w : World) (hB : Below w0.heap.size w0 w) (hr0_2 : ∀ W_, Kept w W_ (fun k_ => P1_ k_) → Kd.C (Kd.int .u8) W_ A0_2 l0_2.length l0_2) (hc0_2 : l0_2.length ≤ c0_2) (ho1 : Kd.R (Kd.int .i64) 3 w w0.heap.size P1_ u9000_ l1) (h : incunableref15_spread.f k a0_0 a0_1 l0_2 l1 a2 a3 a4 a5 = some (r1, r2)) :
  Calls Try.prog 44 #[.agg #[.int .i64 a0_0, .int .i64 a0_1, .slice A0_2 l0_2.length c0_2], u9000_, .int .i64 a2, .int .i64 a3, .int .i64 a4, .bool a5] w fun e w' => e = .returned (.int .i64 r1) ∧ Kd.R (Kd.int .i64) 3 w' w0.heap.size (fun k_ => (P1_ k_ ∨ w.heap.size ≤ k_)) u9000_ r2 ∧ Below w0.heap.size w0 w' ∧ Kept w w' (fun k_ => P1_ k_) := by
 have hu24 := Try.underlying24
 have HR0_2 := Aside0.mk hr0_2
 have HC0_2 := Aside0.mk hc0_2
 clear hr0_2 hc0_2
 have HO1 := Aside0.mk (show Kd.R (Kd.int .i64) 3 w w0.heap.size (fun k_ => (P1_ k_ ∨ w.heap.size ≤ k_)) u9000_ l1 from Kd.R_mono ho1 (fun k_ hk => (.inl hk)))
 have HK := Aside0.mk (Kept.refl w (fun k_ => P1_ k_))
 have HW0 := Aside0.mk hB.size
 have HB := Aside0.mk hB
 clear hB
 have H : (if 0 ≤ a2 then (if a2 < (l1.length : Int) then (incunableref15_spread.l0 k (l1.set (a2 : Int).toNat a3) a3 a4 a5 (([a2] : List Int)) 0 a0_0 a0_1 l0_2) else (none)) else (none)) = some (r1, r2) := h
 clear h
 by_cases c7 : 0 ≤ a2
 ·rw [if_pos c7] at H
  have c7b0 : decide (0 ≤ a2) = true := decide_eq_true c7
  clear c7
  by_cases c8 : a2 < (l1.length : Int)
  ·rw [if_pos c8] at H
   have c8b0 : decide (a2 < (l1.length : Int)) = true := decide_eq_true c8
   clear c8
   obtain ⟨y237, hy237⟩ : ∃ y_ : List Int, y_ = (l1.set (a2 : Int).toNat a3) := ⟨_, rfl⟩
   replace H : (incunableref15_spread.l0 k y237 a3 a4 a5 (([a2] : List Int)) 0 a0_0 a0_1 l0_2) = some (r1, r2) := by first | (rw [hy237]; with_reducible exact H) | (have H2_ := (Option.bind_some _ _).symm.trans H; rw [hy237]; with_reducible exact H2_) | (have H2_ := (Option.bind_some _ _).symm.trans H; with_reducible exact H2_) | with_reducible exact H | (rw [hy237]; exact H) | exact H
   have Ny237 := Aside0.mk hy237
   clear hy237
   obtain ⟨y238, hy238⟩ : ∃ y_ : List Int, y_ = (([a2] : List Int)) := ⟨_, rfl⟩
   replace H : (incunableref15_spread.l0 k y237 a3 a4 a5 y238 0 a0_0 a0_1 l0_2) = some (r1, r2) := by first | (rw [hy238]; with_reducible exact H) | (have H2_ := (Option.bind_some _ _).symm.trans H; rw [hy238]; with_reducible exact H2_) | (have H2_ := (Option.bind_some _ _).symm.trans H; with_reducible exact H2_) | with_reducible exact H | (rw [hy238]; exact H) | exact H
   have Ny238 := Aside0.mk hy238
   clear hy238
   have H' := Aside0.mk H
   clear H
   go_enter Try.func44, Try.ntmps44
   go_wp2_with (first | ((with_reducible refine gate_dst (N := 6) rfl ?_); refine box_event ?hg (N := 6) ?hd (cs := #[.int .i64 a0_0, .int .i64 a0_1, .slice A0_2 l0_2.length c0_2]) (t := 24) ?hr ?_; (case hd => rfl); (case hg => rfl); (case hr => first | (go_simp; done) | (go_simp; rfl)); intro gb236 hg w10 hbox hb; have n0_ := Aside0.mk (Kd.R_below (rU HO1.out) hb); have n1_ := Aside0.mk (Kept.below (S := (fun k_ => P1_ k_)) (by repeat (first | (with_reducible first | exact HK.out | apply Kept.alloc | apply Kept.drewN | apply Kept.drew) | exact HK.out)) hb); have n2_ := Aside0.mk (below_step (by repeat (first | (with_reducible first | exact HB.out | apply below_alloc | apply pw_below_drewN | apply below_drew1) | exact HB.out)) hb); have n3_ := Aside0.mk (hbox); have n4_ := Aside0.mk ((by rw [hg]; exact (by first | exact HK.out.1 | exact (show Kept w _ (fun k_ => P1_ k_) from by repeat (first | (with_reducible first | exact HK.out | apply Kept.alloc | apply Kept.drewN | apply Kept.drew) | exact HK.out)).1) : w.heap.size ≤ gb236)); have n5_ := Aside0.mk ((by rw [hg]; exact (below_size (by repeat (first | (with_reducible first | exact HB.out | apply below_alloc | apply pw_below_drewN | apply below_drew1) | exact HB.out))) : w0.heap.size ≤ gb236)); clear HO1; clear HK; clear HB; have HO1 := n0_; have HK := n1_; have HB := n2_; have BK236 := n3_; have GW236 := n4_; have GE236 := n5_; clear n0_ n1_ n2_ n3_ n4_ n5_; clear hb hbox hg; have p9 : 0 ≤ (a2 : Int) := of_decide_eq_true (by first | (with_reducible assumption) | assumption); have q9 : (a2 : Int) < ((l1.length : Int) : Int) := of_decide_eq_true (by first | (with_reducible assumption) | assumption); obtain ⟨go9, co9, eo9, gb9, gl9, cl9, HG9⟩ := Kd.R_form HO1.out (by omega); (first | cases eo9 | (injection eo9 with ea_ en_ ec_; (first | subst ea_ | (injection ea_ with ea_; subst ea_)); subst ec_; clear en_)); have GB9 := Aside0.mk gb9; have GG9 := Aside0.mk HG9; clear gb9 gl9 HG9; have HMgo9 := Aside0.mk (show (P1_ go9 ∨ w.heap.size ≤ go9) from (HO1.out.1 _ rfl)); obtain ⟨hx9_0, hf9_0⟩ := Kd.R_celln 0 HO1.out (a2 : Int) p9 q9; replace p9 := eq_true p9; replace q9 := eq_true q9; obtain ⟨hy11_, hz11_⟩ := Kd.R_celln 0 HO1.out (a2 : Int) (of_decide_eq_true (by first | (with_reducible assumption) | assumption)) (of_decide_eq_true (by first | (with_reducible assumption) | assumption)); have HP11 := Kd.R_putg HO1.out (a2 : Int) a3) | ((with_reducible refine gate_store (t := 3) (p := 23) rfl ?_); (try (rw [drewN_self w10]; generalize hq_ : World.drewN w10 _ = w10; have n0_ := Aside0.mk (Kd.R_at hq_ HO1.out); have n1_ := Aside0.mk (blk_at hq_ BK236.out); have n2_ := Aside0.mk (kept_at hq_ HK.out); have n3_ := Aside0.mk (below_at hq_ HB.out); clear hq_ HO1 BK236 HK HB; have HO1 := n0_; have BK236 := n1_; have HK := n2_; have HB := n3_; clear n0_ n1_ n2_ n3_; (try (obtain ⟨hy11_, hz11_⟩ := Kd.R_celln 0 HO1.out (a2 : Int) (of_decide_eq_true (by first | (with_reducible assumption) | assumption)) (of_decide_eq_true (by first | (with_reducible assumption) | assumption)))); (try (have HP11 := Kd.R_putg HO1.out (a2 : Int) a3)))); refine store_event (t := 3) (p := 23) (v := ?vo_w12) (w1 := (w10.setCell ⟨go9, (a2 : Int).toNat, none⟩ (.int .i64 a3))) ?hg ?ho ?hn ?hr ?_; (case ho => rfl); (case hg => rfl); (case hn => rfl); (case hr => first | (go_simp; done) | (go_simp; rfl)); intro w12 hw; have hg : w10.grownBy w12 (some go9) := (by rw [hw]; exact HP11.2); have hp_ : Kd.R (Kd.int .i64) 3 w12 w0.heap.size (fun k_ => (P1_ k_ ∨ w.heap.size ≤ k_)) (.slice (some ⟨go9, 0, none⟩) l1.length co9) y237 := (by rw [hw, Ny237.out]; exact HP11.1); clear HP11; have n0_ := Aside0.mk (hp_); have n1_ := Aside0.mk (blk_grown (bU BK236.out) hg (Kd.R_ne HO1.out BK236.out (by decide))); have n2_ := Aside0.mk ((by rw [hw]; exact below_set (HB.out) GB9.out : Below w0.heap.size w0 w12)); have n3_ := Aside0.mk (Kept.of_grown (S := (fun k_ => P1_ k_)) hg (by repeat (first | (with_reducible first | exact HK.out | apply Kept.alloc | apply Kept.drewN | apply Kept.drew | refine Kept.setCell ?_ (.inr GW236.out) _) | exact HK.out)) (fun k_ e_ => (HO1.out.1 k_ e_))); clear HO1; clear BK236; clear HB; clear HK; have HO1 := n0_; have BK236 := n1_; have HB := n2_; have HK := n3_; clear n0_ n1_ n2_ n3_; clear hg hw hp_) | ((with_reducible refine gate_dst (N := 25) rfl ?_); refine Kd.R_lit (Kd.int .i64) _ 3 ?hg (N := 25) ?hd (xs := ([a2] : List Int)) (inner := [.int .i64 a2]) (ok := fun _ => True) (okp := fun _ => True) ?hr ?hp (fun _ hk => hk) trivial (Below.refl _ _) (Nat.le_refl _) (by simp) ?_; (case hd => rfl); (case hg => rfl); (case hr => first | (go_simp; done) | (go_simp; rfl)); (case hp => exact (Reps.one (show Kd.M (Kd.int .i64) _ _ _ a2 [.int .i64 a2] from rfl) (Reps.none _ _))); intro v239 w13 ho14 hb hg_ hnew_; clear hg_ hnew_; (first | rw [← Ny238.out] at ho14 | (simp only [Int.reduceToNat] at ho14; rw [← Ny238.out] at ho14)); have n0_ := Aside0.mk (Kd.R_elder' (rU HO1.out) (Kd.R_base ho14) hb); have n1_ := Aside0.mk (Kd.R_lower (Kd.R_new' (Kd.R_newM (M := fun k_ => (P1_ k_ ∨ w.heap.size ≤ k_)) ho14 (by first | exact HK.out.1 | exact (show Kept w _ (fun k_ => P1_ k_) from by repeat (first | (with_reducible first | exact HK.out | apply Kept.alloc | apply Kept.drewN | apply Kept.drew | refine Kept.setCell ?_ (.inr GW236.out) _) | exact HK.out)).1) (fun k_ h_ => .inr h_)) (Kd.R_lt (rU HO1.out))) (below_size (by repeat (first | (with_reducible first | exact HB.out | apply below_alloc | apply pw_below_drewN | apply below_drew1 | refine below_set ?_ GE236.out) | exact HB.out)))); have n2_ := Aside0.mk (blk_below (bU BK236.out) hb); have n3_ := Aside0.mk (Kept.below (S := (fun k_ => P1_ k_)) (by repeat (first | (with_reducible first | exact HK.out | apply Kept.alloc | apply Kept.drewN | apply Kept.drew | refine Kept.setCell ?_ (.inr GW236.out) _) | exact HK.out)) hb); have n4_ := Aside0.mk (below_step (by repeat (first | (with_reducible first | exact HB.out | apply below_alloc | apply pw_below_drewN | apply below_drew1 | refine below_set ?_ GE236.out) | exact HB.out)) hb); clear HO1; clear BK236; clear HK; clear HB; have HO1 := n0_; have HO240 := n1_; have BK236 := n2_; have HK := n3_; have HB := n4_; clear n0_ n1_ n2_ n3_ n4_; clear hb ho14))
   go_loopg [13, 14] k (fun kq v13 v14 w' => ∃ (x1_1 : List Int) (x13_1 : List Int) (x14_1 : Int), v14 = .int .i64 x14_1 ∧ Aside0 (incunableref15_spread.l0 kq x1_1 a3 a4 a5 x13_1 x14_1 a0_0 a0_1 l0_2 = some (r1, r2)) ∧ Aside0 (kq ≤ k) ∧ Aside0 (Kd.R (Kd.int .i64) 3 w' w0.heap.size (fun k_ => (P1_ k_ ∨ w.heap.size ≤ k_) ∧ some k_ ≠ (v13 : Value).ownBlock) (.slice (some ⟨go9, 0, none⟩) l1.length co9) x1_1) ∧ Aside0 (Kd.R (Kd.int .i64) 3 w' w0.heap.size (fun k_ => (P1_ k_ ∨ w.heap.size ≤ k_) ∧ some k_ ≠ ((.slice (some ⟨go9, 0, none⟩) l1.length co9) : Value).ownBlock) v13 x13_1) ∧ Aside0 (w'.heap[gb236]? = some (.cells #[.int .i64 a0_0, .int .i64 a0_1, (.slice A0_2 l0_2.length c0_2)] 24 (0, 0))) ∧ Aside0 (Kept w w' (fun k_ => P1_ k_)) ∧ Aside0 (Below w0.heap.size w0 w'))
   case atStart => exact ⟨(y237), (y238), (0), (by first | rfl | (simp; done) | (simp [*]; done)), H', ⟨Nat.le_refl _⟩, ⟨by (with_reducible repeat (first | apply Kd.R_alloc | apply Kd.R_drewN | apply Kd.R_drew)); exact HO1.out⟩, ⟨by (with_reducible repeat (first | apply Kd.R_alloc | apply Kd.R_drewN | apply Kd.R_drew)); exact Kd.R_mono HO240.out (fun _ hk => ⟨hk.1.1, hk.2⟩)⟩, ⟨by exact bU BK236.out⟩, ⟨by repeat (first | (with_reducible first | exact HK.out | apply Kept.alloc | apply Kept.drewN | apply Kept.drew | refine Kept.setCell ?_ (.inr GW236.out) _) | exact HK.out)⟩, ⟨by repeat (first | (with_reducible first | exact HB.out | apply below_alloc | apply pw_below_drewN | apply below_drew1 | refine below_set ?_ GE236.out) | exact HB.out)⟩⟩
   case round =>
    clear H'
    try clear p2
    try clear c4
    try clear c7
    try clear c7b0
    try clear c8
    try clear c8b0
    try clear p9
    try clear q9
    try clear hx9
    try clear hf9
    try clear hx9_0
    try clear p9
    try clear q9
    obtain ⟨x1_1, x13_1, x14_1, rfl, HA, HK1, HO_1, HO_13, BK236, HK, HB⟩ := hrel
    have hl1_1 := (Kd.R_reads' HO_1.out).1
    rw [hl1_1] at HO_1
    (try simp only [hl1_1])
    (try simp only [hl1_1] at BK236)
    (try simp only [hl1_1] at HO_13)
    cases gk with
    | zero => exact absurd HA.out (by simp [incunableref15_spread.l0])
    | succ k1 =>
     have H := HA.out
     clear HA
     simp only [incunableref15_spread.l0] at H
     by_cases c15 : x14_1 < (x13_1.length : Int)
     ·rw [if_pos c15] at H
      have c15b0 : decide (x14_1 < (x13_1.length : Int)) = true := decide_eq_true c15
      (try (have c15b0_hl1_1 := c15b0; simp only [hl1_1] at c15b0_hl1_1))
      clear c15
      by_cases c16 : 0 ≤ x14_1
      ·rw [if_pos c16] at H
       have c16b0 : decide (0 ≤ x14_1) = true := decide_eq_true c16
       clear c16
       by_cases c17 : a0_0 = 0
       ·rw [if_pos c17] at H
        exact absurd H (by simp)
       ·rw [if_neg c17] at H
        have c17b0 : (a0_0 == 0) = false := beq_eq_false_iff_ne.mpr c17
        have c17b1 : (a0_0 != 0) = true := bne_iff_ne.mpr c17
        have H' := Aside0.mk H
        clear H
        obtain ⟨Ao18, co18, eo18⟩ := Kd.R_slice HO_13.out
        subst eo18
        have p241 : 0 ≤ (x14_1 : Int) := of_decide_eq_true (by first | (with_reducible assumption) | assumption)
        have q241 : x14_1 < (x13_1.length : Int) := of_decide_eq_true (by first | (with_reducible assumption) | assumption)
        obtain ⟨ad241, e241, hx241_0⟩ := Kd.at_int (Kd.R_reads' HO_13.out).2.2 x14_1 p241 q241
        cases e241
        replace p241 := eq_true p241
        replace q241 := eq_true q241
        have hcz19_0 : wr.cell? ⟨gb236, 0, none⟩ = some (.int .i64 a0_0) := (blk_cell BK236.out 0).trans rfl
        have hcz19_1 : wr.cell? ⟨gb236, 1, none⟩ = some (.int .i64 a0_1) := (blk_cell BK236.out 1).trans rfl
        have hcz19_2 : wr.cell? ⟨gb236, 2, none⟩ = some (.slice A0_2 l0_2.length c0_2) := (blk_cell BK236.out 2).trans rfl
        have hfz19_0 := blk_frozen BK236.out 0
        have hfz19_1 := blk_frozen BK236.out 1
        have hfz19_2 := blk_frozen BK236.out 2
        have p242 : 0 ≤ (x14_1 : Int) := of_decide_eq_true (by first | (with_reducible assumption) | assumption)
        have q242 : x14_1 < (x13_1.length : Int) := of_decide_eq_true (by first | (with_reducible assumption) | assumption)
        obtain ⟨ad242, e242, hx242_0⟩ := Kd.at_int (Kd.R_reads' HO_13.out).2.2 x14_1 p242 q242
        obtain rfl : ad241 = ad242 := (by injection e242)
        replace p242 := eq_true p242
        replace q242 := eq_true q242
        go_wp2
        repeat (go_quiet (fail); try go_wp2)
        go_loopg [13, 17] k1 (fun kq v13 v17 w' => ∃ (x1_2 : List Int) (x13_2 : List Int) (x17_2 : Int), v17 = .int .i64 x17_2 ∧ Aside0 (incunableref15_spread.l1 kq x1_2 a3 a4 a5 x13_2 x14_1 (Int.tmod (rd x13_1 x14_1) a0_0) (wrap64 (Int.tdiv (rd x13_1 x14_1) a0_0)) x17_2 a0_0 a0_1 l0_2 = some (r1, r2)) ∧ Aside0 (kq ≤ k1) ∧ Aside0 (Kd.R (Kd.int .i64) 3 w' w0.heap.size (fun k_ => (P1_ k_ ∨ w.heap.size ≤ k_) ∧ some k_ ≠ (v13 : Value).ownBlock) (.slice (some ⟨go9, 0, none⟩) x1_1.length co9) x1_2) ∧ Aside0 (Kd.R (Kd.int .i64) 3 w' w0.heap.size (fun k_ => (P1_ k_ ∨ w.heap.size ≤ k_) ∧ some k_ ≠ ((.slice (some ⟨go9, 0, none⟩) x1_1.length co9) : Value).ownBlock) v13 x13_2) ∧ Aside0 (w'.heap[gb236]? = some (.cells #[.int .i64 a0_0, .int .i64 a0_1, (.slice A0_2 l0_2.length c0_2)] 24 (0, 0))) ∧ Aside0 (Kept w w' (fun k_ => P1_ k_)) ∧ Aside0 (Below w0.heap.size w0 w'))
        case atStart => exact ⟨(x1_1), (x13_1), (wrap64 ((wrap64 (Int.tdiv (rd x13_1 x14_1) a0_0)) - 1)), (by first | rfl | (simp; done) | (simp [*]; done)), H', ⟨Nat.le_refl _⟩, ⟨by (try simp only [hl1_1]); (with_reducible repeat (first | apply Kd.R_alloc | apply Kd.R_drewN | apply Kd.R_drew)); exact HO_1.out⟩, ⟨by (try simp only [hl1_1]); (with_reducible repeat (first | apply Kd.R_alloc | apply Kd.R_drewN | apply Kd.R_drew)); exact HO_13.out⟩, ⟨by (try simp only [hl1_1]); exact bU BK236.out⟩, ⟨by repeat (first | (with_reducible first | exact HK.out | apply Kept.alloc | apply Kept.drewN | apply Kept.drew | refine Kept.setCell ?_ (.inr GW236.out) _) | exact HK.out)⟩, ⟨by repeat (first | (with_reducible first | exact HB.out | apply below_alloc | apply pw_below_drewN | apply below_drew1 | refine below_set ?_ GE236.out) | exact HB.out)⟩⟩
        case round =>
         clear H'
         try clear c1
         try clear p2
         try clear q2
         try clear hx2
         try clear c4
         try clear p6
         try clear c7
         try clear c7b0
         try clear c8
         try clear c8b0
         try clear p9
         try clear q9
         try clear hx9
         try clear hf9
         try clear c15
         try clear c15b0
         try clear c16
         try clear c16b0
         try clear c17
         try clear c17b0
         try clear c17b1
         try clear hcz19_0
         try clear hcz19_1
         try clear hcz19_2
         try clear hfz19_0
         try clear hfz19_1
         try clear hfz19_2
         try clear hx241_0
         try clear hx242_0
         try clear hx9_0
         try clear p2
         try clear p241
         try clear p242
         try clear p9
         try clear q241
         try clear q242
         try clear q9
         obtain ⟨x1_2, x13_2, x17_2, rfl, HA, HK2, HO_1, HO_13, BK236, HK, HB⟩ := hrel
         have hl1_2 := (Kd.R_reads' HO_1.out).1
         rw [hl1_2] at HO_1
         (try simp only [hl1_2])
         (try simp only [hl1_2] at BK236)
         (try simp only [hl1_2] at HO_13)
         cases gk with
         | zero => exact absurd HA.out (by simp [incunableref15_spread.l1])
         | succ k2 =>
          have H := HA.out
          clear HA
          simp only [incunableref15_spread.l1] at H
          by_cases c20 : x17_2 ≤ (wrap64 ((wrap64 (Int.tdiv (rd x13_1 x14_1) a0_0)) + 1))
          ·rw [if_pos c20] at H
           have c20b0 : decide (x17_2 ≤ (wrap64 ((wrap64 (Int.tdiv (rd x13_1 x14_1) a0_0)) + 1))) = true := decide_eq_true c20
           clear c20
           have H' := Aside0.mk H
           clear H
           go_wp2
           go_loopg [13, 18] k2 (fun kq v13 v18 w' => ∃ (x1_3 : List Int) (x13_3 : List Int) (x18_3 : Int), v18 = .int .i64 x18_3 ∧ Aside0 (incunableref15_spread.l2 kq x1_3 a3 a4 a5 x13_3 x14_1 (Int.tmod (rd x13_1 x14_1) a0_0) (wrap64 (Int.tdiv (rd x13_1 x14_1) a0_0)) x17_2 x18_3 a0_0 a0_1 l0_2 = some (r1, r2)) ∧ Aside0 (kq ≤ k2) ∧ Aside0 (Kd.R (Kd.int .i64) 3 w' w0.heap.size (fun k_ => (P1_ k_ ∨ w.heap.size ≤ k_) ∧ some k_ ≠ (v13 : Value).ownBlock) (.slice (some ⟨go9, 0, none⟩) x1_2.length co9) x1_3) ∧ Aside0 (Kd.R (Kd.int .i64) 3 w' w0.heap.size (fun k_ => (P1_ k_ ∨ w.heap.size ≤ k_) ∧ some k_ ≠ ((.slice (some ⟨go9, 0, none⟩) x1_2.length co9) : Value).ownBlock) v13 x13_3) ∧ Aside0 (w'.heap[gb236]? = some (.cells #[.int .i64 a0_0, .int .i64 a0_1, (.slice A0_2 l0_2.length c0_2)] 24 (0, 0))) ∧ Aside0 (Kept w w' (fun k_ => P1_ k_)) ∧ Aside0 (Below w0.heap.size w0 w'))
           case atStart => exact ⟨(x1_2), (x13_2), (wrap64 ((Int.tmod (rd x13_1 x14_1) a0_0) - 1)), (by first | rfl | (simp; done) | (simp [*]; done)), H', ⟨Nat.le_refl _⟩, ⟨by (try simp only [hl1_1]); (try simp only [hl1_2]); (with_reducible repeat (first | apply Kd.R_alloc | apply Kd.R_drewN | apply Kd.R_drew)); exact HO_1.out⟩, ⟨by (try simp only [hl1_1]); (try simp only [hl1_2]); (with_reducible repeat (first | apply Kd.R_alloc | apply Kd.R_drewN | apply Kd.R_drew)); exact HO_13.out⟩, ⟨by (try simp only [hl1_1]); (try simp only [hl1_2]); exact bU BK236.out⟩, ⟨by repeat (first | (with_reducible first | exact HK.out | apply Kept.alloc | apply Kept.drewN | apply Kept.drew | refine Kept.setCell ?_ (.inr GW236.out) _) | exact HK.out)⟩, ⟨by repeat (first | (with_reducible first | exact HB.out | apply below_alloc | apply pw_below_drewN | apply below_drew1 | refine below_set ?_ GE236.out) | exact HB.out)⟩⟩
           case round =>
            clear H'
            try clear c1
            try clear c2
            try clear p2
            try clear q2
            try clear hx2
            try clear c4
            try clear p6
            try clear c7
            try clear c7b0
            try clear c8
            try clear c8b0
            try clear p9
            try clear q9
            try clear hx9
            try clear hf9
            try clear c15
            try clear c15b0
            try clear c16
            try clear c16b0
            try clear c17
            try clear c17b0
            try clear c17b1
            try clear c20
            try clear c20b0
            try clear hcz19_0
            try clear hcz19_1
            try clear hcz19_2
            try clear hfz19_0
            try clear hfz19_1
            try clear hfz19_2
            try clear hx241_0
            try clear hx242_0
            try clear hx9_0
            try clear p2
            try clear p241
            try clear p242
            try clear p6
            try clear p9
            try clear q2
            try clear q241
            try clear q242
            try clear q9
            obtain ⟨x1_3, x13_3, x18_3, rfl, HA, HK3, HO_1, HO_13, BK236, HK, HB⟩ := hrel
            have hl1_3 := (Kd.R_reads' HO_1.out).1
            rw [hl1_3] at HO_1
            (try simp only [hl1_3])
            (try simp only [hl1_3] at BK236)
            (try simp only [hl1_3] at HO_13)
            cases gk with
            | zero => exact absurd HA.out (by simp [incunableref15_spread.l2])
            | succ k3 =>
             have H := HA.out
             clear HA
             simp only [incunableref15_spread.l2] at H
             by_cases c21 : x18_3 ≤ (wrap64 ((Int.tmod (rd x13_1 x14_1) a0_0) + 1))
             ·rw [if_pos c21] at H
              have c21b0 : decide (x18_3 ≤ (wrap64 ((Int.tmod (rd x13_1 x14_1) a0_0) + 1))) = true := decide_eq_true c21
              clear c21
              have HC22 := Aside0.mk H
              clear H
              go_upto_region 13 with (fail)
              go_cut [93] (fun v93 wc => ∃ (kq : Nat) (x93_21 : Bool), v93 = .bool x93_21 ∧ Aside0 (incunableref15_spread.j3 kq x1_3 a3 a4 a5 x13_3 x14_1 (Int.tmod (rd x13_1 x14_1) a0_0) (wrap64 (Int.tdiv (rd x13_1 x14_1) a0_0)) x17_2 x18_3 x93_21 a0_0 a0_1 l0_2 = some (r1, r2)) ∧ Aside0 (kq ≤ k3) ∧ Aside0 (Kd.R (Kd.int .i64) 3 wc w0.heap.size (fun k_ => (P1_ k_ ∨ w.heap.size ≤ k_) ∧ some k_ ≠ (u13 : Value).ownBlock) (.slice (some ⟨go9, 0, none⟩) x1_3.length co9) x1_3) ∧ Aside0 (Kd.R (Kd.int .i64) 3 wc w0.heap.size (fun k_ => (P1_ k_ ∨ w.heap.size ≤ k_) ∧ some k_ ≠ ((.slice (some ⟨go9, 0, none⟩) x1_3.length co9) : Value).ownBlock) u13 x13_3) ∧ Aside0 (wc.heap[gb236]? = some (.cells #[.int .i64 a0_0, .int .i64 a0_1, (.slice A0_2 l0_2.length c0_2)] 24 (0, 0))) ∧ Aside0 (Kept w wc (fun k_ => P1_ k_)) ∧ Aside0 (Below w0.heap.size w0 wc))
              case first =>
               have H := HC22.out
               clear HC22
               by_cases c23 : x18_3 < 0
               ·rw [if_pos c23] at H
                have c23b0 : decide (x18_3 < 0) = true := decide_eq_true c23
                clear c23
                (first | rw [c23b0] | (simp only [i64_w, i32_w]; rw [c23b0]) | skip)
                have H' := Aside0.mk H
                clear H
                go_wp2
                go_meet
                case rel => exact ⟨_, (true), (by first | rfl | (simp; done) | (simp [*]; done)), H', ⟨by have := HK1.out; have := HK2.out; have := HK3.out; first | omega | exact Nat.le_refl _⟩, ⟨by (try simp only [hl1_1]); (try simp only [hl1_2]); (try simp only [hl1_3]); (with_reducible repeat (first | apply Kd.R_alloc | apply Kd.R_drewN | apply Kd.R_drew)); exact HO_1.out⟩, ⟨by (try simp only [hl1_1]); (try simp only [hl1_2]); (try simp only [hl1_3]); (with_reducible repeat (first | apply Kd.R_alloc | apply Kd.R_drewN | apply Kd.R_drew)); exact HO_13.out⟩, ⟨by (try simp only [hl1_1]); (try simp only [hl1_2]); (try simp only [hl1_3]); exact bU BK236.out⟩, ⟨by repeat (first | (with_reducible first | exact HK.out | apply Kept.alloc | apply Kept.drewN | apply Kept.drew | refine Kept.setCell ?_ (.inr GW236.out) _) | exact HK.out)⟩, ⟨by repeat (first | (with_reducible first | exact HB.out | apply below_alloc | apply pw_below_drewN | apply below_drew1 | refine below_set ?_ GE236.out) | exact HB.out)⟩⟩
               ·rw [if_neg c23] at H
                have c23b0 : decide (x18_3 < 0) = false := decide_eq_false c23
                clear c23
                (first | rw [c23b0] | (simp only [i64_w, i32_w]; rw [c23b0]) | skip)
                by_cases c24 : x17_2 < 0
                ·rw [if_pos c24] at H
                 have c24b0 : decide (x17_2 < 0) = true := decide_eq_true c24
                 clear c24
                 have H' := Aside0.mk H
                 clear H
                 go_wp2
                 go_meet
                 case rel => exact ⟨_, (true), (by first | rfl | (simp; done) | (simp [*]; done)), H', ⟨by have := HK1.out; have := HK2.out; have := HK3.out; first | omega | exact Nat.le_refl _⟩, ⟨by (try simp only [hl1_1]); (try simp only [hl1_2]); (try simp only [hl1_3]); (with_reducible repeat (first | apply Kd.R_alloc | apply Kd.R_drewN | apply Kd.R_drew)); exact HO_1.out⟩, ⟨by (try simp only [hl1_1]); (try simp only [hl1_2]); (try simp only [hl1_3]); (with_reducible repeat (first | apply Kd.R_alloc | apply Kd.R_drewN | apply Kd.R_drew)); exact HO_13.out⟩, ⟨by (try simp only [hl1_1]); (try simp only [hl1_2]); (try simp only [hl1_3]); exact bU BK236.out⟩, ⟨by repeat (first | (with_reducible first | exact HK.out | apply Kept.alloc | apply Kept.drewN | apply Kept.drew | refine Kept.setCell ?_ (.inr GW236.out) _) | exact HK.out)⟩, ⟨by repeat (first | (with_reducible first | exact HB.out | apply below_alloc | apply pw_below_drewN | apply below_drew1 | refine below_set ?_ GE236.out) | exact HB.out)⟩⟩
                ·rw [if_neg c24] at H
                 have c24b0 : decide (x17_2 < 0) = false := decide_eq_false c24
                 clear c24
                 by_cases c25 : x18_3 ≥ a0_0
                 ·rw [if_pos c25] at H
                  have c25b0 : decide (a0_0 ≤ x18_3) = true := decide_eq_true c25
                  clear c25
                  have H' := Aside0.mk H
                  clear H
                  have hcz26_0 : wr.cell? ⟨gb236, 0, none⟩ = some (.int .i64 a0_0) := (blk_cell BK236.out 0).trans rfl
                  have hcz26_1 : wr.cell? ⟨gb236, 1, none⟩ = some (.int .i64 a0_1) := (blk_cell BK236.out 1).trans rfl
                  have hcz26_2 : wr.cell? ⟨gb236, 2, none⟩ = some (.slice A0_2 l0_2.length c0_2) := (blk_cell BK236.out 2).trans rfl
                  have hfz26_0 := blk_frozen BK236.out 0
                  have hfz26_1 := blk_frozen BK236.out 1
                  have hfz26_2 := blk_frozen BK236.out 2
                  go_wp2
                  go_meet
                  case rel => exact ⟨_, (true), (by first | rfl | (simp; done) | (simp [*]; done)), H', ⟨by have := HK1.out; have := HK2.out; have := HK3.out; first | omega | exact Nat.le_refl _⟩, ⟨by (try simp only [hl1_1]); (try simp only [hl1_2]); (try simp only [hl1_3]); (with_reducible repeat (first | apply Kd.R_alloc | apply Kd.R_drewN | apply Kd.R_drew)); exact HO_1.out⟩, ⟨by (try simp only [hl1_1]); (try simp only [hl1_2]); (try simp only [hl1_3]); (with_reducible repeat (first | apply Kd.R_alloc | apply Kd.R_drewN | apply Kd.R_drew)); exact HO_13.out⟩, ⟨by (try simp only [hl1_1]); (try simp only [hl1_2]); (try simp only [hl1_3]); exact bU BK236.out⟩, ⟨by repeat (first | (with_reducible first | exact HK.out | apply Kept.alloc | apply Kept.drewN | apply Kept.drew | refine Kept.setCell ?_ (.inr GW236.out) _) | exact HK.out)⟩, ⟨by repeat (first | (with_reducible first | exact HB.out | apply below_alloc | apply pw_below_drewN | apply below_drew1 | refine below_set ?_ GE236.out) | exact HB.out)⟩⟩
                 ·rw [if_neg c25] at H
                  have c25b0 : decide (a0_0 ≤ x18_3) = false := decide_eq_false c25
                  clear c25
                  by_cases c27 : x17_2 ≥ a0_1
                  ·rw [if_pos c27] at H
                   have c27b0 : decide (a0_1 ≤ x17_2) = true := decide_eq_true c27
                   clear c27
                   have H' := Aside0.mk H
                   clear H
                   have hcz28_0 : wr.cell? ⟨gb236, 0, none⟩ = some (.int .i64 a0_0) := (blk_cell BK236.out 0).trans rfl
                   have hcz28_1 : wr.cell? ⟨gb236, 1, none⟩ = some (.int .i64 a0_1) := (blk_cell BK236.out 1).trans rfl
                   have hcz28_2 : wr.cell? ⟨gb236, 2, none⟩ = some (.slice A0_2 l0_2.length c0_2) := (blk_cell BK236.out 2).trans rfl
                   have hfz28_0 := blk_frozen BK236.out 0
                   have hfz28_1 := blk_frozen BK236.out 1
                   have hfz28_2 := blk_frozen BK236.out 2
                   go_wp2
                   go_meet
                   case rel => exact ⟨_, (true), (by first | rfl | (simp; done) | (simp [*]; done)), H', ⟨by have := HK1.out; have := HK2.out; have := HK3.out; first | omega | exact Nat.le_refl _⟩, ⟨by (try simp only [hl1_1]); (try simp only [hl1_2]); (try simp only [hl1_3]); (with_reducible repeat (first | apply Kd.R_alloc | apply Kd.R_drewN | apply Kd.R_drew)); exact HO_1.out⟩, ⟨by (try simp only [hl1_1]); (try simp only [hl1_2]); (try simp only [hl1_3]); (with_reducible repeat (first | apply Kd.R_alloc | apply Kd.R_drewN | apply Kd.R_drew)); exact HO_13.out⟩, ⟨by (try simp only [hl1_1]); (try simp only [hl1_2]); (try simp only [hl1_3]); exact bU BK236.out⟩, ⟨by repeat (first | (with_reducible first | exact HK.out | apply Kept.alloc | apply Kept.drewN | apply Kept.drew | refine Kept.setCell ?_ (.inr GW236.out) _) | exact HK.out)⟩, ⟨by repeat (first | (with_reducible first | exact HB.out | apply below_alloc | apply pw_below_drewN | apply below_drew1 | refine below_set ?_ GE236.out) | exact HB.out)⟩⟩
                  ·rw [if_neg c27] at H
                   have c27b0 : decide (a0_1 ≤ x17_2) = false := decide_eq_false c27
                   clear c27
                   by_cases c29 : a5 = true
                   ·subst c29
                    have H1 : (incunableref15_spread.j3 k3 x1_3 a3 a4 true x13_3 x14_1 (Int.tmod (rd x13_1 x14_1) a0_0) (wrap64 (Int.tdiv (rd x13_1 x14_1) a0_0)) x17_2 x18_3 false a0_0 a0_1 l0_2) = some (r1, r2) := by rw [if_pos rfl] at H; exact H
                    clear H
                    have H := H1
                    clear H1
                    have H' := Aside0.mk H
                    clear H
                    have hcz30_0 : wr.cell? ⟨gb236, 0, none⟩ = some (.int .i64 a0_0) := (blk_cell BK236.out 0).trans rfl
                    have hcz30_1 : wr.cell? ⟨gb236, 1, none⟩ = some (.int .i64 a0_1) := (blk_cell BK236.out 1).trans rfl
                    have hcz30_2 : wr.cell? ⟨gb236, 2, none⟩ = some (.slice A0_2 l0_2.length c0_2) := (blk_cell BK236.out 2).trans rfl
                    have hfz30_0 := blk_frozen BK236.out 0
                    have hfz30_1 := blk_frozen BK236.out 1
                    have hfz30_2 := blk_frozen BK236.out 2
                    go_wp2
                    go_meet
                    case rel => exact ⟨_, (false), (by first | rfl | (simp; done) | (simp [*]; done)), H', ⟨by have := HK1.out; have := HK2.out; have := HK3.out; first | omega | exact Nat.le_refl _⟩, ⟨by (try simp only [hl1_1]); (try simp only [hl1_2]); (try simp only [hl1_3]); (with_reducible repeat (first | apply Kd.R_alloc | apply Kd.R_drewN | apply Kd.R_drew)); exact HO_1.out⟩, ⟨by (try simp only [hl1_1]); (try simp only [hl1_2]); (try simp only [hl1_3]); (with_reducible repeat (first | apply Kd.R_alloc | apply Kd.R_drewN | apply Kd.R_drew)); exact HO_13.out⟩, ⟨by (try simp only [hl1_1]); (try simp only [hl1_2]); (try simp only [hl1_3]); exact bU BK236.out⟩, ⟨by repeat (first | (with_reducible first | exact HK.out | apply Kept.alloc | apply Kept.drewN | apply Kept.drew | refine Kept.setCell ?_ (.inr GW236.out) _) | exact HK.out)⟩, ⟨by repeat (first | (with_reducible first | exact HB.out | apply below_alloc | apply pw_below_drewN | apply below_drew1 | refine below_set ?_ GE236.out) | exact HB.out)⟩⟩
                   ·replace c29 := Bool.eq_false_iff.mpr c29
                    subst c29
                    have H1 : (if x18_3 = (Int.tmod (rd x13_1 x14_1) a0_0) then (incunableref15_spread.j3 k3 x1_3 a3 a4 false x13_3 x14_1 (Int.tmod (rd x13_1 x14_1) a0_0) (wrap64 (Int.tdiv (rd x13_1 x14_1) a0_0)) x17_2 x18_3 false a0_0 a0_1 l0_2) else (incunableref15_spread.j3 k3 x1_3 a3 a4 false x13_3 x14_1 (Int.tmod (rd x13_1 x14_1) a0_0) (wrap64 (Int.tdiv (rd x13_1 x14_1) a0_0)) x17_2 x18_3 (x17_2 != (wrap64 (Int.tdiv (rd x13_1 x14_1) a0_0))) a0_0 a0_1 l0_2)) = some (r1, r2) := by rw [if_neg (show ¬ (false = true) by decide)] at H; exact H
                    clear H
                    have H := H1
                    clear H1
                    by_cases c31 : x18_3 = (Int.tmod (rd x13_1 x14_1) a0_0)
                    ·rw [if_pos c31] at H
                     have c31b0 : (x18_3 == (Int.tmod (rd x13_1 x14_1) a0_0)) = true := beq_iff_eq.mpr c31
                     have c31b1 : (x18_3 != (Int.tmod (rd x13_1 x14_1) a0_0)) = false := bne_eq_false_iff_eq.mpr c31
                     clear c31
                     have H' := Aside0.mk H
                     clear H
                     have hcz32_0 : wr.cell? ⟨gb236, 0, none⟩ = some (.int .i64 a0_0) := (blk_cell BK236.out 0).trans rfl
                     have hcz32_1 : wr.cell? ⟨gb236, 1, none⟩ = some (.int .i64 a0_1) := (blk_cell BK236.out 1).trans rfl
                     have hcz32_2 : wr.cell? ⟨gb236, 2, none⟩ = some (.slice A0_2 l0_2.length c0_2) := (blk_cell BK236.out 2).trans rfl
                     have hfz32_0 := blk_frozen BK236.out 0
                     have hfz32_1 := blk_frozen BK236.out 1
                     have hfz32_2 := blk_frozen BK236.out 2
                     go_wp2
                     go_meet
                     case rel => exact ⟨_, (false), (by first | rfl | (simp; done) | (simp [*]; done)), H', ⟨by have := HK1.out; have := HK2.out; have := HK3.out; first | omega | exact Nat.le_refl _⟩, ⟨by (try simp only [hl1_1]); (try simp only [hl1_2]); (try simp only [hl1_3]); (with_reducible repeat (first | apply Kd.R_alloc | apply Kd.R_drewN | apply Kd.R_drew)); exact HO_1.out⟩, ⟨by (try simp only [hl1_1]); (try simp only [hl1_2]); (try simp only [hl1_3]); (with_reducible repeat (first | apply Kd.R_alloc | apply Kd.R_drewN | apply Kd.R_drew)); exact HO_13.out⟩, ⟨by (try simp only [hl1_1]); (try simp only [hl1_2]); (try simp only [hl1_3]); exact bU BK236.out⟩, ⟨by repeat (first | (with_reducible first | exact HK.out | apply Kept.alloc | apply Kept.drewN | apply Kept.drew | refine Kept.setCell ?_ (.inr GW236.out) _) | exact HK.out)⟩, ⟨by repeat (first | (with_reducible first | exact HB.out | apply below_alloc | apply pw_below_drewN | apply below_drew1 | refine below_set ?_ GE236.out) | exact HB.out)⟩⟩
                    ·rw [if_neg c31] at H
                     have c31b0 : (x18_3 == (Int.tmod (rd x13_1 x14_1) a0_0)) = false := beq_eq_false_iff_ne.mpr c31
                     have c31b1 : (x18_3 != (Int.tmod (rd x13_1 x14_1) a0_0)) = true := bne_iff_ne.mpr c31
                     have H' := Aside0.mk H
                     clear H
                     have hcz33_0 : wr.cell? ⟨gb236, 0, none⟩ = some (.int .i64 a0_0) := (blk_cell BK236.out 0).trans rfl
                     have hcz33_1 : wr.cell? ⟨gb236, 1, none⟩ = some (.int .i64 a0_1) := (blk_cell BK236.out 1).trans rfl
                     have hcz33_2 : wr.cell? ⟨gb236, 2, none⟩ = some (.slice A0_2 l0_2.length c0_2) := (blk_cell BK236.out 2).trans rfl
                     have hfz33_0 := blk_frozen BK236.out 0
                     have hfz33_1 := blk_frozen BK236.out 1
                     have hfz33_2 := blk_frozen BK236.out 2
                     go_wp2
                     go_meet
                     case rel => exact ⟨_, ((x17_2 != (wrap64 (Int.tdiv (rd x13_1 x14_1) a0_0)))), (by first | rfl | (simp; done) | (simp [*]; done)), H', ⟨by have := HK1.out; have := HK2.out; have := HK3.out; first | omega | exact Nat.le_refl _⟩, ⟨by (try simp only [hl1_1]); (try simp only [hl1_2]); (try simp only [hl1_3]); (with_reducible repeat (first | apply Kd.R_alloc | apply Kd.R_drewN | apply Kd.R_drew)); exact HO_1.out⟩, ⟨by (try simp only [hl1_1]); (try simp only [hl1_2]); (try simp only [hl1_3]); (with_reducible repeat (first | apply Kd.R_alloc | apply Kd.R_drewN | apply Kd.R_drew)); exact HO_13.out⟩, ⟨by (try simp only [hl1_1]); (try simp only [hl1_2]); (try simp only [hl1_3]); exact bU BK236.out⟩, ⟨by repeat (first | (with_reducible first | exact HK.out | apply Kept.alloc | apply Kept.drewN | apply Kept.drew | refine Kept.setCell ?_ (.inr GW236.out) _) | exact HK.out)⟩, ⟨by repeat (first | (with_reducible first | exact HB.out | apply below_alloc | apply pw_below_drewN | apply below_drew1 | refine below_set ?_ GE236.out) | exact HB.out)⟩⟩
              case rest =>
               clear HC22
               try clear c1
               try clear c2
               try clear p2
               try clear q2
               try clear hx2
               try clear c3
               try clear c4
               try clear p6
               try clear c7
               try clear c7b0
               try clear c8
               try clear c8b0
               try clear p9
               try clear q9
               try clear hx9
               try clear hf9
               try clear c15
               try clear c15b0
               try clear c16
               try clear c16b0
               try clear c17
               try clear c17b0
               try clear c17b1
               try clear c20
               try clear c20b0
               try clear c21
               try clear c21b0
               try clear c23
               try clear c23b0
               try clear c24
               try clear c24b0
               try clear p24
               try clear q24
               try clear hx24
               try clear c25
               try clear c25b0
               try clear c27
               try clear c27b0
               try clear c29
               try clear c31
               try clear c31b0
               try clear c31b1
               try clear hcz19_0
               try clear hcz19_1
               try clear hcz19_2
               try clear hcz26_0
               try clear hcz26_1
               try clear hcz26_2
               try clear hcz28_0
               try clear hcz28_1
               try clear hcz28_2
               try clear hcz30_0
               try clear hcz30_1
               try clear hcz30_2
               try clear hcz32_0
               try clear hcz32_1
               try clear hcz32_2
               try clear hcz33_0
               try clear hcz33_1
               try clear hcz33_2
               try clear hfz19_0
               try clear hfz19_1
               try clear hfz19_2
               try clear hfz26_0
               try clear hfz26_1
               try clear hfz26_2
               try clear hfz28_0
               try clear hfz28_1
               try clear hfz28_2
               try clear hfz30_0
               try clear hfz30_1
               try clear hfz30_2
               try clear hfz32_0
               try clear hfz32_1
               try clear hfz32_2
               try clear hfz33_0
               try clear hfz33_1
               try clear hfz33_2
               try clear hx241_0
               try clear hx242_0
               try clear hx9_0
               try clear p2
               try clear p241
               try clear p242
               try clear p6
               try clear p9
               try clear q2
               try clear q241
               try clear q242
               try clear q9
               obtain ⟨kq, x93_21, rfl, HA, HJ21, HO_1, HO_13, BK236, HK, HB⟩ := hcut
               cases kq with
               | zero => exact absurd HA.out (by simp [incunableref15_spread.j3])
               | succ kj21 =>
                have H := HA.out
                clear HA
                simp only [incunableref15_spread.j3] at H
                by_cases c34 : x93_21 = true
                ·subst c34
                 have H1 : (incunableref15_spread.l2 kj21 x1_3 a3 a4 a5 x13_3 x14_1 (Int.tmod (rd x13_1 x14_1) a0_0) (wrap64 (Int.tdiv (rd x13_1 x14_1) a0_0)) x17_2 (wrap64 (x18_3 + 1)) a0_0 a0_1 l0_2) = some (r1, r2) := by rw [if_pos rfl] at H; exact H
                 clear H
                 have H := H1
                 clear H1
                 have H' := Aside0.mk H
                 clear H
                 go_wp2
                 (try simp only [← hl1_3])
                 go_roundg kj21
                 case measure => have := HK1.out; have := HK2.out; have := HK3.out; have := HJ21.out; omega
                 case rel => exact ⟨(x1_3), (x13_3), (wrap64 (x18_3 + 1)), (by first | rfl | (simp; done) | (simp [*]; done)), H', ⟨by have := HK1.out; have := HK2.out; have := HK3.out; have := HJ21.out; omega⟩, ⟨by (try simp only [hl1_1]); (try simp only [hl1_2]); (try simp only [hl1_3]); (with_reducible repeat (first | apply Kd.R_alloc | apply Kd.R_drewN | apply Kd.R_drew)); exact HO_1.out⟩, ⟨by (try simp only [hl1_1]); (try simp only [hl1_2]); (try simp only [hl1_3]); (with_reducible repeat (first | apply Kd.R_alloc | apply Kd.R_drewN | apply Kd.R_drew)); exact HO_13.out⟩, ⟨by (try simp only [hl1_1]); (try simp only [hl1_2]); (try simp only [hl1_3]); exact bU BK236.out⟩, ⟨by repeat (first | (with_reducible first | exact HK.out | apply Kept.alloc | apply Kept.drewN | apply Kept.drew | refine Kept.setCell ?_ (.inr GW236.out) _) | exact HK.out)⟩, ⟨by repeat (first | (with_reducible first | exact HB.out | apply below_alloc | apply pw_below_drewN | apply below_drew1 | refine below_set ?_ GE236.out) | exact HB.out)⟩⟩
                ·replace c34 := Bool.eq_false_iff.mpr c34
                 subst c34
                 have H1 : (if 0 ≤ (wrap64 ((wrap64 (x17_2 * a0_0)) + x18_3)) then (if (wrap64 ((wrap64 (x17_2 * a0_0)) + x18_3)) < (l0_2.length : Int) then (if (wrap64 (rd l0_2 (wrap64 ((wrap64 (x17_2 * a0_0)) + x18_3)))) = a4 then (if (wrap64 ((wrap64 (x17_2 * a0_0)) + x18_3)) < (x1_3.length : Int) then (if (rd x1_3 (wrap64 ((wrap64 (x17_2 * a0_0)) + x18_3))) = 0 then (if x13_3.length < 17592186044416 then (incunableref15_spread.l2 kj21 (x1_3.set ((wrap64 ((wrap64 (x17_2 * a0_0)) + x18_3)) : Int).toNat a3) a3 a4 a5 (x13_3 ++ [wrap64 ((wrap64 (x17_2 * a0_0)) + x18_3)]) x14_1 (Int.tmod (rd x13_1 x14_1) a0_0) (wrap64 (Int.tdiv (rd x13_1 x14_1) a0_0)) x17_2 (wrap64 (x18_3 + 1)) a0_0 a0_1 l0_2) else (none)) else (incunableref15_spread.l2 kj21 x1_3 a3 a4 a5 x13_3 x14_1 (Int.tmod (rd x13_1 x14_1) a0_0) (wrap64 (Int.tdiv (rd x13_1 x14_1) a0_0)) x17_2 (wrap64 (x18_3 + 1)) a0_0 a0_1 l0_2)) else (none)) else (incunableref15_spread.l2 kj21 x1_3 a3 a4 a5 x13_3 x14_1 (Int.tmod (rd x13_1 x14_1) a0_0) (wrap64 (Int.tdiv (rd x13_1 x14_1) a0_0)) x17_2 (wrap64 (x18_3 + 1)) a0_0 a0_1 l0_2)) else (none)) else (none)) = some (r1, r2) := by rw [if_neg (show ¬ (false = true) by decide)] at H; exact H
                 clear H
                 have H := H1
                 clear H1
                 obtain ⟨ji35, hji35⟩ : ∃ j_ : Int, (wrap64 ((wrap64 (x17_2 * a0_0)) + x18_3)) = j_ := ⟨_, rfl⟩
                 replace H : (if 0 ≤ (ji35) then (if (ji35) < (l0_2.length : Int) then (if (wrap64 (rd l0_2 (ji35))) = a4 then (if (ji35) < (x1_3.length : Int) then (if (rd x1_3 (ji35)) = 0 then (if x13_3.length < 17592186044416 then (incunableref15_spread.l2 kj21 (x1_3.set ((ji35) : Int).toNat a3) a3 a4 a5 (x13_3 ++ [ji35]) x14_1 (Int.tmod (rd x13_1 x14_1) a0_0) (wrap64 (Int.tdiv (rd x13_1 x14_1) a0_0)) x17_2 (wrap64 (x18_3 + 1)) a0_0 a0_1 l0_2) else (none)) else (incunableref15_spread.l2 kj21 x1_3 a3 a4 a5 x13_3 x14_1 (Int.tmod (rd x13_1 x14_1) a0_0) (wrap64 (Int.tdiv (rd x13_1 x14_1) a0_0)) x17_2 (wrap64 (x18_3 + 1)) a0_0 a0_1 l0_2)) else (none)) else (incunableref15_spread.l2 kj21 x1_3 a3 a4 a5 x13_3 x14_1 (Int.tmod (rd x13_1 x14_1) a0_0) (wrap64 (Int.tdiv (rd x13_1 x14_1) a0_0)) x17_2 (wrap64 (x18_3 + 1)) a0_0 a0_1 l0_2)) else (none)) else (none)) = some (r1, r2) := by first | (rw [hji35] at H; exact H) | (simp only [hji35] at H ⊢; exact H)
                 have hji35w : (IntKind.i64.wrap ((wrap64 (x17_2 * a0_0)) + x18_3)) = ji35 := (i64_w _).trans hji35
                 by_cases c36 : 0 ≤ (ji35)
                 ·rw [if_pos c36] at H
                  have c36b0 : decide (0 ≤ (ji35)) = true := decide_eq_true c36
                  clear c36
                  by_cases c37 : (ji35) < (l0_2.length : Int)
                  ·rw [if_pos c37] at H
                   have c37b0 : decide ((ji35) < (l0_2.length : Int)) = true := decide_eq_true c37
                   (try (have c37b0_hl1_1 := c37b0; simp only [hl1_1] at c37b0_hl1_1))
                   (try (have c37b0_hl1_2 := c37b0; simp only [hl1_2] at c37b0_hl1_2))
                   (try (have c37b0_hl1_3 := c37b0; simp only [hl1_3] at c37b0_hl1_3))
                   clear c37
                   by_cases c38 : (wrap64 (rd l0_2 (ji35))) = a4
                   ·rw [if_pos c38] at H
                    have c38b0 : ((wrap64 (rd l0_2 (ji35))) == a4) = true := beq_iff_eq.mpr c38
                    have c38b1 : ((wrap64 (rd l0_2 (ji35))) != a4) = false := bne_eq_false_iff_eq.mpr c38
                    clear c38
                    by_cases c39 : (ji35) < (x1_3.length : Int)
                    ·rw [if_pos c39] at H
                     have c39b0 : decide ((ji35) < (x1_3.length : Int)) = true := decide_eq_true c39
                     (try (have c39b0_hl1_1 := c39b0; simp only [hl1_1] at c39b0_hl1_1))
                     (try (have c39b0_hl1_2 := c39b0; simp only [hl1_2] at c39b0_hl1_2))
                     (try (have c39b0_hl1_3 := c39b0; simp only [hl1_3] at c39b0_hl1_3))
                     clear c39
                     by_cases c40 : (rd x1_3 (ji35)) = 0
                     ·rw [if_pos c40] at H
                      have c40b0 : ((rd x1_3 (ji35)) == 0) = true := beq_iff_eq.mpr c40
                      have c40b1 : ((rd x1_3 (ji35)) != 0) = false := bne_eq_false_iff_eq.mpr c40
                      clear c40
                      obtain ⟨y245, hy245⟩ : ∃ y_ : List Int, y_ = (x1_3.set ((ji35) : Int).toNat a3) := ⟨_, rfl⟩
                      replace H : (if x13_3.length < 17592186044416 then (incunableref15_spread.l2 kj21 y245 a3 a4 a5 (x13_3 ++ [ji35]) x14_1 (Int.tmod (rd x13_1 x14_1) a0_0) (wrap64 (Int.tdiv (rd x13_1 x14_1) a0_0)) x17_2 (wrap64 (x18_3 + 1)) a0_0 a0_1 l0_2) else (none)) = some (r1, r2) := by first | (rw [hy245]; with_reducible exact H) | (have H2_ := (Option.bind_some _ _).symm.trans H; rw [hy245]; with_reducible exact H2_) | (have H2_ := (Option.bind_some _ _).symm.trans H; with_reducible exact H2_) | with_reducible exact H | (rw [hy245]; exact H) | exact H
                      have Ny245 := Aside0.mk hy245
                      clear hy245
                      by_cases c42 : x13_3.length < 17592186044416
                      ·rw [if_pos c42] at H
                       have LMc42 := Aside0.mk c42
                       clear c42
                       obtain ⟨y246, hy246⟩ : ∃ y_ : List Int, y_ = (x13_3 ++ [ji35]) := ⟨_, rfl⟩
                       replace H : (incunableref15_spread.l2 kj21 y245 a3 a4 a5 y246 x14_1 (Int.tmod (rd x13_1 x14_1) a0_0) (wrap64 (Int.tdiv (rd x13_1 x14_1) a0_0)) x17_2 (wrap64 (x18_3 + 1)) a0_0 a0_1 l0_2) = some (r1, r2) := by first | (rw [hy246]; with_reducible exact H) | (have H2_ := (Option.bind_some _ _).symm.trans H; rw [hy246]; with_reducible exact H2_) | (have H2_ := (Option.bind_some _ _).symm.trans H; with_reducible exact H2_) | with_reducible exact H | (rw [hy246]; exact H) | exact H
                       have Ny246 := Aside0.mk hy246
                       clear hy246
                       have H' := Aside0.mk H
                       clear H
                       have hcz43_0 : wc.cell? ⟨gb236, 0, none⟩ = some (.int .i64 a0_0) := (blk_cell BK236.out 0).trans rfl
                       have hcz43_1 : wc.cell? ⟨gb236, 1, none⟩ = some (.int .i64 a0_1) := (blk_cell BK236.out 1).trans rfl
                       have hcz43_2 : wc.cell? ⟨gb236, 2, none⟩ = some (.slice A0_2 l0_2.length c0_2) := (blk_cell BK236.out 2).trans rfl
                       have hfz43_0 := blk_frozen BK236.out 0
                       have hfz43_1 := blk_frozen BK236.out 1
                       have hfz43_2 := blk_frozen BK236.out 2
                       have p243 : 0 ≤ ((ji35) : Int) := of_decide_eq_true (by first | (with_reducible assumption) | assumption)
                       have q243 : (ji35) < (l0_2.length : Int) := of_decide_eq_true (by first | (with_reducible assumption) | assumption)
                       obtain ⟨ad243, e243, hx243_0⟩ := Kd.at_int (Kd.C_kept_now HR0_2.out HK.out) (ji35) p243 q243
                       cases e243
                       replace p243 := eq_true p243
                       replace q243 := eq_true q243
                       have p244 : 0 ≤ ((ji35) : Int) := of_decide_eq_true (by first | (with_reducible assumption) | assumption)
                       have q244 : (ji35) < (x1_3.length : Int) := of_decide_eq_true (by first | (with_reducible assumption) | assumption)
                       obtain ⟨ad244, e244, hx244_0⟩ := Kd.at_int (Kd.R_reads' HO_1.out).2.2 (ji35) p244 q244
                       obtain rfl : (⟨go9, 0, none⟩ : Addr) = ad244 := (by injection e244)
                       (first | simp only [add_plain] at hx244_0 | simp only [add_at] at hx244_0 | simp only [Addr.add, Nat.zero_add] at hx244_0 | skip)
                       replace p244 := eq_true p244
                       replace q244 := eq_true q244
                       have p41 : 0 ≤ ((ji35) : Int) := of_decide_eq_true (by first | (with_reducible assumption) | assumption)
                       have q41 : ((ji35) : Int) < ((x1_3.length : Int) : Int) := of_decide_eq_true (by first | (with_reducible assumption) | assumption)
                       obtain ⟨hx41_0, hf41_0⟩ := Kd.R_celln 0 HO_1.out ((ji35) : Int) p41 q41
                       replace p41 := eq_true p41
                       replace q41 := eq_true q41
                       have HP44 := Kd.R_putg HO_1.out ((ji35) : Int) a3
                       go_wp2_with (first | ((with_reducible refine gate_store (t := 3) (p := 118) rfl ?_); (try (rw [drewN_self wc]; generalize hq_ : World.drewN wc _ = wc; have n0_ := Aside0.mk (Kd.R_at hq_ HO_1.out); have n1_ := Aside0.mk (Kd.R_at hq_ HO_13.out); have n2_ := Aside0.mk (blk_at hq_ BK236.out); have n3_ := Aside0.mk (kept_at hq_ HK.out); have n4_ := Aside0.mk (below_at hq_ HB.out); clear hq_ HO_1 HO_13 BK236 HK HB; have HO_1 := n0_; have HO_13 := n1_; have BK236 := n2_; have HK := n3_; have HB := n4_; clear n0_ n1_ n2_ n3_ n4_; (try (have HP44 := Kd.R_putg HO_1.out ((ji35) : Int) a3)); (try (obtain ⟨hx41_0, hf41_0⟩ := Kd.R_celln 0 HO_1.out ((ji35) : Int) (of_eq_true p41) (of_eq_true q41))))); refine store_event (t := 3) (p := 118) (v := ?vo_w45) (w1 := (wc.setCell ⟨go9, ((ji35) : Int).toNat, none⟩ (.int .i64 a3))) ?hg ?ho ?hn ?hr ?_; (case ho => rfl); (case hg => rfl); (case hn => rfl); (case hr => first | (go_simp; done) | (go_simp; rfl)); intro w45 hw; have hg : wc.grownBy w45 (some go9) := (by rw [hw]; exact HP44.2); have hp_ : Kd.R (Kd.int .i64) 3 w45 w0.heap.size (fun k_ => (P1_ k_ ∨ w.heap.size ≤ k_) ∧ some k_ ≠ (u13 : Value).ownBlock) (.slice (some ⟨go9, 0, none⟩) x1_3.length co9) y245 := (by rw [hw, Ny245.out]; exact HP44.1); clear HP44; have n0_ := Aside0.mk (hp_); have n1_ := Aside0.mk (Kd.R_after (v := (.slice (some ⟨go9, 0, none⟩) x1_3.length co9)) (v1 := (.slice (some ⟨go9, 0, none⟩) x1_3.length co9)) (ok := (fun k_ => (P1_ k_ ∨ w.heap.size ≤ k_))) (rU HO_13.out) hg (.inl rfl)); have n2_ := Aside0.mk (blk_grown (bU BK236.out) hg (Kd.R_ne HO_1.out BK236.out (by decide))); have n3_ := Aside0.mk ((by rw [hw]; exact below_set (HB.out) GB9.out : Below w0.heap.size w0 w45)); have n4_ := Aside0.mk (Kept.of_grown (S := (fun k_ => P1_ k_)) hg (by repeat (first | (with_reducible first | exact HK.out | apply Kept.alloc | apply Kept.drewN | apply Kept.drew | refine Kept.setCell ?_ (.inr GW236.out) _) | exact HK.out)) (fun k_ e_ => (HO_1.out.1 k_ e_).1)); clear HO_1; clear HO_13; clear BK236; clear HB; clear HK; have HO_1 := n0_; have HO_13 := n1_; have BK236 := n2_; have HB := n3_; have HK := n4_; clear n0_ n1_ n2_ n3_ n4_; clear hg hw hp_) | ((with_reducible refine gate_builtin (b := .append) (xs := #[.tmp 119, .tmp 121]) rfl ?_); at_builtin; refine Kd.R_append (Kd.int .i64) (w0 := w0) w0.heap.size rfl (.tmp 119) (.tmp 121) 34 3 (.int .i64 0) 8 rfl Try.underlying34 info3 rfl (by decide) (by omega) u13 x13_3 ji35 [.int .i64 ji35] (fun k_ => (P1_ k_ ∨ w.heap.size ≤ k_) ∧ some k_ ≠ (.slice (some ⟨go9, 0, none⟩) x1_3.length co9 : Value).ownBlock) (fun _ => False) rfl rfl ?aP (fun _ hk => hk.elim) ?aF ?aO ?aB ?aS ?aL ?_; (case aP => exact rfl); (case aB => exact (by repeat (first | (with_reducible first | exact HB.out | apply below_alloc | apply pw_below_drewN | apply below_drew1 | refine below_set ?_ GE236.out) | exact HB.out))); (case aF => exact (fun k_ hk => ⟨(.inr (Nat.le_trans (by first | exact HK.out.1 | exact (show Kept w _ (fun k_ => P1_ k_) from by repeat (first | (with_reducible first | exact HK.out | apply Kept.alloc | apply Kept.drewN | apply Kept.drew | refine Kept.setCell ?_ (.inr GW236.out) _) | exact HK.out)).1) hk)), Kd.fresh' (Kd.R_lt (rU HO_1.out)) k_ hk⟩)); (case aO => exact (rU HO_13.out)); (case aS => exact (below_size (by repeat (first | (with_reducible first | exact HB.out | apply below_alloc | apply pw_below_drewN | apply below_drew1 | refine below_set ?_ GE236.out) | exact HB.out)))); (case aL => have := LMc42.out; omega); intro v247 w46 ho hb hg hat; rw [← Ny246.out] at ho; have n0_ := Aside0.mk (Kd.R_after (ok := (fun k_ => (P1_ k_ ∨ w.heap.size ≤ k_))) (rU HO_1.out) hg hat); have n1_ := Aside0.mk (blk_grown (bU BK236.out) hg (Kd.R_ne HO_13.out BK236.out (by decide))); have n2_ := Aside0.mk (hb); have n3_ := Aside0.mk (Kept.of_grown (S := (fun k_ => P1_ k_)) hg (by repeat (first | (with_reducible first | exact HK.out | apply Kept.alloc | apply Kept.drewN | apply Kept.drew | refine Kept.setCell ?_ (.inr GW236.out) _) | exact HK.out)) (fun k_ e_ => (HO_13.out.1 k_ e_).1)); have n4_ := Aside0.mk (ho); clear HO_1; clear BK236; clear HB; clear HK; clear HO_13; have HO_1 := n0_; have BK236 := n1_; have HB := n2_; have HK := n3_; have HO248 := n4_; clear n0_ n1_ n2_ n3_ n4_; clear ho hb hg hat))
                       (try simp only [← hl1_3])
                       go_roundg kj21
                       case measure => have := HK1.out; have := HK2.out; have := HK3.out; have := HJ21.out; omega
                       case rel => exact ⟨(y245), (y246), (wrap64 (x18_3 + 1)), (by first | rfl | (simp; done) | (simp [*]; done)), H', ⟨by have := HK1.out; have := HK2.out; have := HK3.out; have := HJ21.out; omega⟩, ⟨by (try simp only [hl1_1]); (try simp only [hl1_2]); (try simp only [hl1_3]); (with_reducible repeat (first | apply Kd.R_alloc | apply Kd.R_drewN | apply Kd.R_drew)); exact HO_1.out⟩, ⟨by (try simp only [hl1_1]); (try simp only [hl1_2]); (try simp only [hl1_3]); (with_reducible repeat (first | apply Kd.R_alloc | apply Kd.R_drewN | apply Kd.R_drew)); exact HO248.out⟩, ⟨by (try simp only [hl1_1]); (try simp only [hl1_2]); (try simp only [hl1_3]); exact bU BK236.out⟩, ⟨by repeat (first | (with_reducible first | exact HK.out | apply Kept.alloc | apply Kept.drewN | apply Kept.drew | refine Kept.setCell ?_ (.inr GW236.out) _) | exact HK.out)⟩, ⟨by repeat (first | (with_reducible first | exact HB.out | apply below_alloc | apply pw_below_drewN | apply below_drew1 | refine below_set ?_ GE236.out) | exact HB.out)⟩⟩
                      ·rw [if_neg c42] at H
                       exact absurd H (by simp)
                     ·rw [if_neg c40] at H
                      have c40b0 : ((rd x1_3 (ji35)) == 0) = false := beq_eq_false_iff_ne.mpr c40
                      have c40b1 : ((rd x1_3 (ji35)) != 0) = true := bne_iff_ne.mpr c40
                      have H' := Aside0.mk H
                      clear H
                      have hcz47_0 : wc.cell? ⟨gb236, 0, none⟩ = some (.int .i64 a0_0) := (blk_cell BK236.out 0).trans rfl
                      have hcz47_1 : wc.cell? ⟨gb236, 1, none⟩ = some (.int .i64 a0_1) := (blk_cell BK236.out 1).trans rfl
                      have hcz47_2 : wc.cell? ⟨gb236, 2, none⟩ = some (.slice A0_2 l0_2.length c0_2) := (blk_cell BK236.out 2).trans rfl
                      have hfz47_0 := blk_frozen BK236.out 0
                      have hfz47_1 := blk_frozen BK236.out 1
                      have hfz47_2 := blk_frozen BK236.out 2
                      have p243 : 0 ≤ ((ji35) : Int) := of_decide_eq_true (by first | (with_reducible assumption) | assumption)
                      have q243 : (ji35) < (l0_2.length : Int) := of_decide_eq_true (by first | (with_reducible assumption) | assumption)
                      obtain ⟨ad243, e243, hx243_0⟩ := Kd.at_int (Kd.C_kept_now HR0_2.out HK.out) (ji35) p243 q243
                      cases e243
                      replace p243 := eq_true p243
                      replace q243 := eq_true q243
                      have p244 : 0 ≤ ((ji35) : Int) := of_decide_eq_true (by first | (with_reducible assumption) | assumption)
                      have q244 : (ji35) < (x1_3.length : Int) := of_decide_eq_true (by first | (with_reducible assumption) | assumption)
                      obtain ⟨ad244, e244, hx244_0⟩ := Kd.at_int (Kd.R_reads' HO_1.out).2.2 (ji35) p244 q244
                      obtain rfl : (⟨go9, 0, none⟩ : Addr) = ad244 := (by injection e244)
                      (first | simp only [add_plain] at hx244_0 | simp only [add_at] at hx244_0 | simp only [Addr.add, Nat.zero_add] at hx244_0 | skip)
                      replace p244 := eq_true p244
                      replace q244 := eq_true q244
                      go_wp2
                      (try simp only [← hl1_3])
                      go_roundg kj21
                      case measure => have := HK1.out; have := HK2.out; have := HK3.out; have := HJ21.out; omega
                      case rel => exact ⟨(x1_3), (x13_3), (wrap64 (x18_3 + 1)), (by first | rfl | (simp; done) | (simp [*]; done)), H', ⟨by have := HK1.out; have := HK2.out; have := HK3.out; have := HJ21.out; omega⟩, ⟨by (try simp only [hl1_1]); (try simp only [hl1_2]); (try simp only [hl1_3]); (with_reducible repeat (first | apply Kd.R_alloc | apply Kd.R_drewN | apply Kd.R_drew)); exact HO_1.out⟩, ⟨by (try simp only [hl1_1]); (try simp only [hl1_2]); (try simp only [hl1_3]); (with_reducible repeat (first | apply Kd.R_alloc | apply Kd.R_drewN | apply Kd.R_drew)); exact HO_13.out⟩, ⟨by (try simp only [hl1_1]); (try simp only [hl1_2]); (try simp only [hl1_3]); exact bU BK236.out⟩, ⟨by repeat (first | (with_reducible first | exact HK.out | apply Kept.alloc | apply Kept.drewN | apply Kept.drew | refine Kept.setCell ?_ (.inr GW236.out) _) | exact HK.out)⟩, ⟨by repeat (first | (with_reducible first | exact HB.out | apply below_alloc | apply pw_below_drewN | apply below_drew1 | refine below_set ?_ GE236.out) | exact HB.out)⟩⟩
                    ·rw [if_neg c39] at H
                     exact absurd H (by simp)
                   ·rw [if_neg c38] at H
                    have c38b0 : ((wrap64 (rd l0_2 (ji35))) == a4) = false := beq_eq_false_iff_ne.mpr c38
                    have c38b1 : ((wrap64 (rd l0_2 (ji35))) != a4) = true := bne_iff_ne.mpr c38
                    have H' := Aside0.mk H
                    clear H
                    have hcz48_0 : wc.cell? ⟨gb236, 0, none⟩ = some (.int .i64 a0_0) := (blk_cell BK236.out 0).trans rfl
                    have hcz48_1 : wc.cell? ⟨gb236, 1, none⟩ = some (.int .i64 a0_1) := (blk_cell BK236.out 1).trans rfl
                    have hcz48_2 : wc.cell? ⟨gb236, 2, none⟩ = some (.slice A0_2 l0_2.length c0_2) := (blk_cell BK236.out 2).trans rfl
                    have hfz48_0 := blk_frozen BK236.out 0
                    have hfz48_1 := blk_frozen BK236.out 1
                    have hfz48_2 := blk_frozen BK236.out 2
                    have p243 : 0 ≤ ((ji35) : Int) := of_decide_eq_true (by first | (with_reducible assumption) | assumption)
                    have q243 : (ji35) < (l0_2.length : Int) := of_decide_eq_true (by first | (with_reducible assumption) | assumption)
                    obtain ⟨ad243, e243, hx243_0⟩ := Kd.at_int (Kd.C_kept_now HR0_2.out HK.out) (ji35) p243 q243
                    cases e243
                    replace p243 := eq_true p243
                    replace q243 := eq_true q243
                    go_wp2
                    (try simp only [← hl1_3])
                    go_roundg kj21
                    case measure => have := HK1.out; have := HK2.out; have := HK3.out; have := HJ21.out; omega
                    case rel => exact ⟨(x1_3), (x13_3), (wrap64 (x18_3 + 1)), (by first | rfl | (simp; done) | (simp [*]; done)), H', ⟨by have := HK1.out; have := HK2.out; have := HK3.out; have := HJ21.out; omega⟩, ⟨by (try simp only [hl1_1]); (try simp only [hl1_2]); (try simp only [hl1_3]); (with_reducible repeat (first | apply Kd.R_alloc | apply Kd.R_drewN | apply Kd.R_drew)); exact HO_1.out⟩, ⟨by (try simp only [hl1_1]); (try simp only [hl1_2]); (try simp only [hl1_3]); (with_reducible repeat (first | apply Kd.R_alloc | apply Kd.R_drewN | apply Kd.R_drew)); exact HO_13.out⟩, ⟨by (try simp only [hl1_1]); (try simp only [hl1_2]); (try simp only [hl1_3]); exact bU BK236.out⟩, ⟨by repeat (first | (with_reducible first | exact HK.out | apply Kept.alloc | apply Kept.drewN | apply Kept.drew | refine Kept.setCell ?_ (.inr GW236.out) _) | exact HK.out)⟩, ⟨by repeat (first | (with_reducible first | exact HB.out | apply below_alloc | apply pw_below_drewN | apply below_drew1 | refine below_set ?_ GE236.out) | exact HB.out)⟩⟩
                  ·rw [if_neg c37] at H
                   exact absurd H (by simp)
                 ·rw [if_neg c36] at H
                  exact absurd H (by simp)
             ·rw [if_neg c21] at H
              have c21b0 : decide (x18_3 ≤ (wrap64 ((Int.tmod (rd x13_1 x14_1) a0_0) + 1))) = false := decide_eq_false c21
              clear c21
              have H' := Aside0.mk H
              clear H
              go_wp2
              (try simp only [← hl1_2, ← hl1_3])
              go_roundg k3
              case measure => have := HK1.out; have := HK2.out; have := HK3.out; omega
              case rel => exact ⟨(x1_3), (x13_3), (wrap64 (x17_2 + 1)), (by first | rfl | (simp; done) | (simp [*]; done)), H', ⟨by have := HK1.out; have := HK2.out; have := HK3.out; omega⟩, ⟨by (try simp only [hl1_1]); (try simp only [hl1_2]); (try simp only [hl1_3]); (with_reducible repeat (first | apply Kd.R_alloc | apply Kd.R_drewN | apply Kd.R_drew)); exact HO_1.out⟩, ⟨by (try simp only [hl1_1]); (try simp only [hl1_2]); (try simp only [hl1_3]); (with_reducible repeat (first | apply Kd.R_alloc | apply Kd.R_drewN | apply Kd.R_drew)); exact HO_13.out⟩, ⟨by (try simp only [hl1_1]); (try simp only [hl1_2]); (try simp only [hl1_3]); exact bU BK236.out⟩, ⟨by repeat (first | (with_reducible first | exact HK.out | apply Kept.alloc | apply Kept.drewN | apply Kept.drew | refine Kept.setCell ?_ (.inr GW236.out) _) | exact HK.out)⟩, ⟨by repeat (first | (with_reducible first | exact HB.out | apply below_alloc | apply pw_below_drewN | apply below_drew1 | refine below_set ?_ GE236.out) | exact HB.out)⟩⟩
          ·rw [if_neg c20] at H
           have c20b0 : decide (x17_2 ≤ (wrap64 ((wrap64 (Int.tdiv (rd x13_1 x14_1) a0_0)) + 1))) = false := decide_eq_false c20
           clear c20
           have H' := Aside0.mk H
           clear H
           go_wp2
           (try simp only [← hl1_1, ← hl1_2])
           go_roundg k2
           case measure => have := HK1.out; have := HK2.out; omega
           case rel => exact ⟨(x1_2), (x13_2), (wrap64 (x14_1 + 1)), (by first | rfl | (simp; done) | (simp [*]; done)), H', ⟨by have := HK1.out; have := HK2.out; omega⟩, ⟨by (try simp only [hl1_1]); (try simp only [hl1_2]); (with_reducible repeat (first | apply Kd.R_alloc | apply Kd.R_drewN | apply Kd.R_drew)); exact HO_1.out⟩, ⟨by (try simp only [hl1_1]); (try simp only [hl1_2]); (with_reducible repeat (first | apply Kd.R_alloc | apply Kd.R_drewN | apply Kd.R_drew)); exact HO_13.out⟩, ⟨by (try simp only [hl1_1]); (try simp only [hl1_2]); exact bU BK236.out⟩, ⟨by repeat (first | (with_reducible first | exact HK.out | apply Kept.alloc | apply Kept.drewN | apply Kept.drew | refine Kept.setCell ?_ (.inr GW236.out) _) | exact HK.out)⟩, ⟨by repeat (first | (with_reducible first | exact HB.out | apply below_alloc | apply pw_below_drewN | apply below_drew1 | refine below_set ?_ GE236.out) | exact HB.out)⟩⟩
      ·rw [if_neg c16] at H
       exact absurd H (by simp)
     ·rw [if_neg c15] at H
      have c15b0 : decide (x14_1 < (x13_1.length : Int)) = false := decide_eq_false c15
      (try (have c15b0_hl1_1 := c15b0; simp only [hl1_1] at c15b0_hl1_1))
      clear c15
      simp only [Option.some.injEq, Prod.mk.injEq] at H
      obtain ⟨rfl, rfl⟩ := H
      obtain ⟨Ao49, co49, eo49⟩ := Kd.R_slice HO_13.out
      subst eo49
      go_wp2
      go_ret
      exact ⟨by first | rfl | (simp [errW_none, errW_some] <;> rfl) | (simp [*, errW_none, errW_some] <;> rfl), (by first | exact (by (with_reducible repeat (first | apply Kd.R_alloc | apply Kd.R_drewN | apply Kd.R_drew)); exact Kd.R_mono HO_1.out (fun _ hk => hk.1)) | (simp only [hl1_1]; exact (by (with_reducible repeat (first | apply Kd.R_alloc | apply Kd.R_drewN | apply Kd.R_drew)); exact Kd.R_mono HO_1.out (fun _ hk => hk.1)))), by repeat (first | (with_reducible first | exact HB.out | apply below_alloc | apply pw_below_drewN | apply below_drew1 | refine below_set ?_ GE236.out) | exact HB.out), by repeat (first | (with_reducible first | exact HK.out | apply Kept.alloc | apply Kept.drewN | apply Kept.drew | refine Kept.setCell ?_ (.inr GW236.out) _) | exact HK.out)⟩
  ·rw [if_neg c8] at H
   exact absurd H (by simp)
 ·rw [if_neg c7] at H
  exact absurd H (by simp)

end Go.Proofs.Ytaflekobfbgedaa.PShapeComponents
