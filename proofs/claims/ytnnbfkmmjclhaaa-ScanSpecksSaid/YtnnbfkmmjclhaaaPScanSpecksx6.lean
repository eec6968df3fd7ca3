-- printed (wip/tools/myprint.py)
import Derived.Test.YtnnbfkmmjclhaaaPScanSpecksx0
import Derived.Test.YtnnbfkmmjclhaaaPScanSpecksx1
import Derived.Test.YtnnbfkmmjclhaaaPScanSpecksx5
namespace Go.Proofs.Ytnnbfkmmjclhaaa.PScanSpecks
open Go.RowKit Go.Proofs.YtnnbfkmmjclhaaaW.PrintWords Go.Proofs.YtnnbfkmmjclhaaaW.PrintLast Go.Proofs.YtnnbfkmmjclhaaaW.PrintMore
attribute [local go_sem] max2_int min2_int max_two min_two max_three min_three max_four min_four
set_option linter.unusedVariables false
set_option linter.unusedSimpArgs false
mutual
def bitmap_Draw.j0 : Nat → Int → Int → Int → Bool → Int → Int → List Int → Int → Int → List Int → Option (Int × Int × List Int × Int)
 | 0, _, _, _, _, _, _, _, _, _, _ => none
 | k + 1, x2, x3, x4, x18, x245000, x245001, x245002, x246000, x246001, x246002 => if x18 = true then (some (0, 0, ([] : List Int), 30)) else (if x4 < 0 then (some (0, 0, ([] : List Int), 2)) else (if x4 > 4 then (some (0, 0, ([] : List Int), 2)) else ((bitmap_isShift.f x2 x3).bind fun t249 => (if t249 = true then ((bitmap_clone.f x245000 x245001 x245002).bind fun bt250 => (bitmap_Draw.l0 k x2 x3 x4 x246001 0 x245000 x245001 x245002 x246000 x246001 x246002 bt250.1 bt250.2.1 bt250.2.2)) else (some (0, 0, ([] : List Int), 2))))))
def bitmap_Draw.l0 : Nat → Int → Int → Int → Int → Int → Int → Int → List Int → Int → Int → List Int → Int → Int → List Int → Option (Int × Int × List Int × Int)
 | 0, _, _, _, _, _, _, _, _, _, _, _, _, _, _ => none
 | k + 1, x2, x3, x4, x45, x46, x245000, x245001, x245002, x246000, x246001, x246002, x256000, x256001, x256002 => if x46 < x45 then (bitmap_Draw.l1 k x2 x3 x4 x46 x45 x46 x246000 0 x245000 x245001 x245002 x246000 x246001 x246002 x256000 x256001 x256002) else (some (x256000, x256001, x256002, 0))
def bitmap_Draw.l1 : Nat → Int → Int → Int → Int → Int → Int → Int → Int → Int → Int → List Int → Int → Int → List Int → Int → Int → List Int → Option (Int × Int × List Int × Int)
 | 0, _, _, _, _, _, _, _, _, _, _, _, _, _, _, _, _, _ => none
 | k + 1, x2, x3, x4, x13, x45, x46, x50, x51, x245000, x245001, x245002, x246000, x246001, x246002, x256000, x256001, x256002 => if x51 < x50 then (if (wrap64 (x2 + x51)) ≥ 0 then (if (wrap64 (x3 + x13)) ≥ 0 then (if (wrap64 (x2 + x51)) < x245000 then (bitmap_Draw.j3 k x2 x3 x4 x13 x51 (wrap64 (x2 + x51)) (wrap64 (x3 + x13)) x45 x46 x50 x51 (decide ((wrap64 (x3 + x13)) < x245001)) x245000 x245001 x245002 x246000 x246001 x246002 x256000 x256001 x256002) else (bitmap_Draw.j3 k x2 x3 x4 x13 x51 (wrap64 (x2 + x51)) (wrap64 (x3 + x13)) x45 x46 x50 x51 false x245000 x245001 x245002 x246000 x246001 x246002 x256000 x256001 x256002)) else (bitmap_Draw.j3 k x2 x3 x4 x13 x51 (wrap64 (x2 + x51)) (wrap64 (x3 + x13)) x45 x46 x50 x51 false x245000 x245001 x245002 x246000 x246001 x246002 x256000 x256001 x256002)) else (bitmap_Draw.j3 k x2 x3 x4 x13 x51 (wrap64 (x2 + x51)) (wrap64 (x3 + x13)) x45 x46 x50 x51 false x245000 x245001 x245002 x246000 x246001 x246002 x256000 x256001 x256002)) else (bitmap_Draw.l0 k x2 x3 x4 x45 (wrap64 (x46 + 1)) x245000 x245001 x245002 x246000 x246001 x246002 x256000 x256001 x256002)
def bitmap_Draw.j3 : Nat → Int → Int → Int → Int → Int → Int → Int → Int → Int → Int → Int → Bool → Int → Int → List Int → Int → Int → List Int → Int → Int → List Int → Option (Int × Int × List Int × Int)
 | 0, _, _, _, _, _, _, _, _, _, _, _, _, _, _, _, _, _, _, _, _, _ => none
 | k + 1, x2, x3, x4, x13, x14, x15, x16, x45, x46, x50, x51, x77, x245000, x245001, x245002, x246000, x246001, x246002, x256000, x256001, x256002 => if x77 = true then (if 0 ≤ (wrap64 ((wrap64 (x16 * x245000)) + x15)) then (if (wrap64 ((wrap64 (x16 * x245000)) + x15)) < (x256002.length : Int) then ((bitmap_at.f x246000 x246001 x246002 x14 x13).bind fun t256 => ((bitmap_combine.f (rd x256002 (wrap64 ((wrap64 (x16 * x245000)) + x15))) t256 x4).bind fun t257 => (bitmap_Draw.l1 k x2 x3 x4 x13 x45 x46 x50 (wrap64 (x51 + 1)) x245000 x245001 x245002 x246000 x246001 x246002 x256000 x256001 (x256002.set ((wrap64 ((wrap64 (x16 * x245000)) + x15)) : Int).toNat t257)))) else (none)) else (none)) else (bitmap_Draw.l1 k x2 x3 x4 x13 x45 x46 x50 (wrap64 (x51 + 1)) x245000 x245001 x245002 x246000 x246001 x246002 x256000 x256001 x256002)
end
def bitmap_Draw.f (k : Nat) (a0_0 : Int) (a0_1 : Int) (l0_2 : List Int) (a1_0 : Int) (a1_1 : Int) (l1_2 : List Int) (a2 : Int) (a3 : Int) (a4 : Int) : Option (Int × Int × List Int × Int) := (bitmap_Valid.f k a0_0 a0_1 l0_2).bind fun t247 => (if t247 = true then ((bitmap_Valid.f k a1_0 a1_1 l1_2).bind fun t248 => (bitmap_Draw.j0 k a2 a3 a4 (!t248) a0_0 a0_1 l0_2 a1_0 a1_1 l1_2)) else (bitmap_Draw.j0 k a2 a3 a4 true a0_0 a0_1 l0_2 a1_0 a1_1 l1_2))
theorem bitmap_Draw.mono_l : ∀ k, (∀ y0 y1 y2 y3 y4 y5 y6 y7 y8 y9, LeO (bitmap_Draw.j0 k y0 y1 y2 y3 y4 y5 y6 y7 y8 y9) (bitmap_Draw.j0 (k + 1) y0 y1 y2 y3 y4 y5 y6 y7 y8 y9)) ∧ (∀ y0 y1 y2 y3 y4 y5 y6 y7 y8 y9 y10 y11 y12 y13, LeO (bitmap_Draw.l0 k y0 y1 y2 y3 y4 y5 y6 y7 y8 y9 y10 y11 y12 y13) (bitmap_Draw.l0 (k + 1) y0 y1 y2 y3 y4 y5 y6 y7 y8 y9 y10 y11 y12 y13)) ∧ (∀ y0 y1 y2 y3 y4 y5 y6 y7 y8 y9 y10 y11 y12 y13 y14 y15 y16, LeO (bitmap_Draw.l1 k y0 y1 y2 y3 y4 y5 y6 y7 y8 y9 y10 y11 y12 y13 y14 y15 y16) (bitmap_Draw.l1 (k + 1) y0 y1 y2 y3 y4 y5 y6 y7 y8 y9 y10 y11 y12 y13 y14 y15 y16)) ∧ (∀ y0 y1 y2 y3 y4 y5 y6 y7 y8 y9 y10 y11 y12 y13 y14 y15 y16 y17 y18 y19 y20, LeO (bitmap_Draw.j3 k y0 y1 y2 y3 y4 y5 y6 y7 y8 y9 y10 y11 y12 y13 y14 y15 y16 y17 y18 y19 y20) (bitmap_Draw.j3 (k + 1) y0 y1 y2 y3 y4 y5 y6 y7 y8 y9 y10 y11 y12 y13 y14 y15 y16 y17 y18 y19 y20))
 | 0 => ⟨fun _ _ _ _ _ _ _ _ _ _ r h => by simp [bitmap_Draw.j0] at h, fun _ _ _ _ _ _ _ _ _ _ _ _ _ _ r h => by simp [bitmap_Draw.l0] at h, fun _ _ _ _ _ _ _ _ _ _ _ _ _ _ _ _ _ r h => by simp [bitmap_Draw.l1] at h, fun _ _ _ _ _ _ _ _ _ _ _ _ _ _ _ _ _ _ _ _ _ r h => by simp [bitmap_Draw.j3] at h⟩
 | k + 1 => by
  obtain ⟨ih0, ih1, ih2, ih3⟩ := bitmap_Draw.mono_l k
  refine ⟨?_, ?_, ?_, ?_⟩
  ·intro y0 y1 y2 y3 y4 y5 y6 y7 y8 y9
   unfold bitmap_Draw.j0
   repeat' first
   | (with_reducible exact ih0 _ _ _ _ _ _ _ _ _ _)
   | (with_reducible exact ih1 _ _ _ _ _ _ _ _ _ _ _ _ _ _)
   | (with_reducible exact ih2 _ _ _ _ _ _ _ _ _ _ _ _ _ _ _ _ _)
   | (with_reducible exact ih3 _ _ _ _ _ _ _ _ _ _ _ _ _ _ _ _ _ _ _ _ _)
   | (with_reducible exact bitmap_Valid.mono _ _ _ _)
   | (with_reducible first | exact LeO.refl _ | exact LeO.none _ | refine LeO.ite ?_ ?_ | refine LeO.bind ?_ (fun _ => ?_))
  ·intro y0 y1 y2 y3 y4 y5 y6 y7 y8 y9 y10 y11 y12 y13
   unfold bitmap_Draw.l0
   repeat' first
   | (with_reducible exact ih0 _ _ _ _ _ _ _ _ _ _)
   | (with_reducible exact ih1 _ _ _ _ _ _ _ _ _ _ _ _ _ _)
   | (with_reducible exact ih2 _ _ _ _ _ _ _ _ _ _ _ _ _ _ _ _ _)
   | (with_reducible exact ih3 _ _ _ _ _ _ _ _ _ _ _ _ _ _ _ _ _ _ _ _ _)
   | (with_reducible exact bitmap_Valid.mono _ _ _ _)
   | (with_reducible first | exact LeO.refl _ | exact LeO.none _ | refine LeO.ite ?_ ?_ | refine LeO.bind ?_ (fun _ => ?_))
  ·intro y0 y1 y2 y3 y4 y5 y6 y7 y8 y9 y10 y11 y12 y13 y14 y15 y16
   unfold bitmap_Draw.l1
   repeat' first
   | (with_reducible exact ih0 _ _ _ _ _ _ _ _ _ _)
   | (with_reducible exact ih1 _ _ _ _ _ _ _ _ _ _ _ _ _ _)
   | (with_reducible exact ih2 _ _ _ _ _ _ _ _ _ _ _ _ _ _ _ _ _)
   | (with_reducible exact ih3 _ _ _ _ _ _ _ _ _ _ _ _ _ _ _ _ _ _ _ _ _)
   | (with_reducible exact bitmap_Valid.mono _ _ _ _)
   | (with_reducible first | exact LeO.refl _ | exact LeO.none _ | refine LeO.ite ?_ ?_ | refine LeO.bind ?_ (fun _ => ?_))
  ·intro y0 y1 y2 y3 y4 y5 y6 y7 y8 y9 y10 y11 y12 y13 y14 y15 y16 y17 y18 y19 y20
   unfold bitmap_Draw.j3
   repeat' first
   | (with_reducible exact ih0 _ _ _ _ _ _ _ _ _ _)
   | (with_reducible exact ih1 _ _ _ _ _ _ _ _ _ _ _ _ _ _)
   | (with_reducible exact ih2 _ _ _ _ _ _ _ _ _ _ _ _ _ _ _ _ _)
   | (with_reducible exact ih3 _ _ _ _ _ _ _ _ _ _ _ _ _ _ _ _ _ _ _ _ _)
   | (with_reducible exact bitmap_Valid.mono _ _ _ _)
   | (with_reducible first | exact LeO.refl _ | exact LeO.none _ | refine LeO.ite ?_ ?_ | refine LeO.bind ?_ (fun _ => ?_))
theorem bitmap_Draw.mono : ∀ a0 a1 a2 a3 a4 a5 a6 a7 a8 k, LeO (bitmap_Draw.f k a0 a1 a2 a3 a4 a5 a6 a7 a8) (bitmap_Draw.f (k + 1) a0 a1 a2 a3 a4 a5 a6 a7 a8) := by
 intro a0 a1 a2 a3 a4 a5 a6 a7 a8 k
 obtain ⟨ih0, ih1, ih2, ih3⟩ := bitmap_Draw.mono_l k
 unfold bitmap_Draw.f
 repeat' first
   | (with_reducible exact ih0 _ _ _ _ _ _ _ _ _ _)
   | (with_reducible exact ih1 _ _ _ _ _ _ _ _ _ _ _ _ _ _)
   | (with_reducible exact ih2 _ _ _ _ _ _ _ _ _ _ _ _ _ _ _ _ _)
   | (with_reducible exact ih3 _ _ _ _ _ _ _ _ _ _ _ _ _ _ _ _ _ _ _ _ _)
   | (with_reducible exact bitmap_Valid.mono _ _ _ _)
   | (with_reducible first | exact LeO.refl _ | exact LeO.none _ | refine LeO.ite ?_ ?_ | refine LeO.bind ?_ (fun _ => ?_))
def bitmap_Draw.T15 : Bool × List (List Nat × List Nat) := (true, [([], []), ([], []), ([1], [1]), ([2], [2]), ([], []), ([], []), ([], []), ([4, 5, 6], [4, 5, 6]), ([], []), ([3, 7, 8, 7], [3, 7, 8]), ([0, 0, 1, 2, 3, 4, 5, 6, 7, 8, 9], [0]), ([10, 9, 9, 0, 1, 2, 3, 4, 5, 6, 7, 8, 9], [9, 10])])
def bitmap_Draw.B15 : List Nat := [0, 0, 2, 6, 0, 0, 0, 112, 0, 510, 1023, 2047]
theorem bitmap_Draw.tab15 : rtab .any (opsOf Try.f31 15) = bitmap_Draw.T15 := by kernel_rfl
theorem bitmap_Draw.bits15 : waitsOk bitmap_Draw.T15.2 bitmap_Draw.B15 = true := by kernel_rfl
set_option maxHeartbeats 8000000 in
set_option maxRecDepth 100000 in
theorem bitmap_Draw.calls (k : Nat) (a0_0 : Int) (a0_1 : Int) (A0_2 : Option Addr) (c0_2 : Nat) (l0_2 : List Int) (a1_0 : Int) (a1_1 : Int) (A1_2 : Option Addr) (c1_2 : Nat) (l1_2 : List Int) (a2 : Int) (a3 : Int) (a4 : Int) (r1 : Int) (r2 : Int) (r3 : List Int) (r4 : Int) (w : World) (hr0_2 : Kd.C (Kd.int .u8) w A0_2 l0_2.length l0_2) (hc0_2 : l0_2.length ≤ c0_2) (hr1_2 : Kd.C (Kd.int .u8) w A1_2 l1_2.length l1_2) (hc1_2 : l1_2.length ≤ c1_2) (h : bitmap_Draw.f k a0_0 a0_1 l0_2 a1_0 a1_1 l1_2 a2 a3 a4 = some (r1, r2, r3, r4)) :
  Calls Try.prog 31 #[.agg #[.int .i64 a0_0, .int .i64 a0_1, .slice A0_2 l0_2.length c0_2], .agg #[.int .i64 a1_0, .int .i64 a1_1, .slice A1_2 l1_2.length c1_2], .int .i64 a2, .int .i64 a3, .int .i64 a4] w fun e w' => ∃ v2_ : Value, e = .returned (.tuple #[.agg #[.int .i64 r1, .int .i64 r2, v2_], .int .i64 r4]) ∧ Kd.R (Kd.int .u8) 5 w' w.heap.size (fun _ => True) v2_ r3 ∧ Below w.heap.size w w' := by
 have hu24 := Try.underlying24
 have HR0_2 := Aside0.mk hr0_2
 have HC0_2 := Aside0.mk hc0_2
 clear hr0_2 hc0_2
 have HR1_2 := Aside0.mk hr1_2
 have HC1_2 := Aside0.mk hc1_2
 clear hr1_2 hc1_2
 have HB := Aside0.mk (Below.refl w.heap.size w)
 have H := h
 unfold bitmap_Draw.f at H
 clear h
 have HC6 := Aside0.mk H
 clear H
 go_enter Try.func31, Try.ntmps31
 go_upto_region 1 with (first | ((with_reducible refine gd 5 rfl ?_); refine bx 5 #[.int .i64 a0_0, .int .i64 a0_1, .slice A0_2 l0_2.length c0_2] 24 rfl rfl ?_; intro gb244 hg w7 hbox hb; have n_ := aC (bs hb) (aC hbox (aC (gz hg) (aE (gz hg)))); clear HB; obtain ⟨HB, BK244, GW244, GE244⟩ := n_; clear hb hbox hg) | ((with_reducible refine gd 6 rfl ?_); refine bx 6 #[.int .i64 a1_0, .int .i64 a1_1, .slice A1_2 l1_2.length c1_2] 24 rfl rfl ?_; intro gb245 hg w8 hbox hb; have n_ := aC (blk_below (bU BK244.out) hb) (aC (bs hb) (aC hbox (aC (gz hg) (aC (gz hg) (aC (gn hg (bU BK244.out)) (aE (gm hg (bU BK244.out)))))))); clear BK244 HB; obtain ⟨BK244, HB, BK245, GW245, GE245, NB244_245, NB245_244⟩ := n_; clear hb hbox hg) | ((with_reducible refine gd 10 rfl ?_); refine bx 10 #[.int .i64 0, .int .i64 0, .slice none 0 0] 24 rfl rfl ?_; intro gb246 hg w9 hbox hb; have n_ := aC (blk_below (bU BK244.out) hb) (aC (blk_below (bU BK245.out) hb) (aC (bs hb) (aC hbox (aC (gz hg) (aC (gz hg) (aC (gn hg (bU BK244.out)) (aC (gm hg (bU BK244.out)) (aC (gn hg (bU BK245.out)) (aE (gm hg (bU BK245.out))))))))))); clear BK244 BK245 HB; obtain ⟨BK244, BK245, HB, BK246, GW246, GE246, NB244_246, NB246_244, NB245_246, NB246_245⟩ := n_; clear hb hbox hg))
 (try simp only [Act.put, List.setIfInBounds_toArray, List.set_cons_zero, List.set_cons_succ])
 go_cut [18] (fun v18 wc => ∃ (kq : Nat) (x18_5 : Bool), v18 = .bool x18_5 ∧ Aside0 (bitmap_Draw.j0 kq a2 a3 a4 x18_5 a0_0 a0_1 l0_2 a1_0 a1_1 l1_2 = some (r1, r2, r3, r4)) ∧ Aside0 (kq ≤ k) ∧ Aside0 (wc.heap[gb244]? = some (.cells #[.int .i64 a0_0, .int .i64 a0_1, (.slice A0_2 l0_2.length c0_2)] 24 (0, 0))) ∧ Aside0 (wc.heap[gb245]? = some (.cells #[.int .i64 a1_0, .int .i64 a1_1, (.slice A1_2 l1_2.length c1_2)] 24 (0, 0))) ∧ Aside0 (wc.heap[gb246]? = some (.cells #[.int .i64 0, .int .i64 0, (.slice none 0 0)] 24 (0, 0))) ∧ Aside0 (Below w.heap.size w wc))
 case first =>
  have H := HC6.out
  clear HC6
  obtain ⟨t247, A10, H⟩ := oB H
  try dsimp only at H
  by_cases c11 : t247 = true
  ·subst c11
   rw [if_pos rfl] at H
   obtain ⟨t248, A12, H⟩ := oB H
   try dsimp only at H
   have H' := Aside0.mk H
   clear H
   have hnb13 := NB244_245.out
   have hnc13 := NB245_244.out
   have hnb14 := NB244_246.out
   have hnc14 := NB246_244.out
   obtain ⟨hcz15_0, hcz15_1, hcz15_2, hfz15_0, hfz15_1, hfz15_2⟩ := cz3f BK244.out
   go_wp2_with (first | ((with_reducible refine gf 24 rfl ?_); refine gL (some 20) rfl rfl Try.func24 rfl #[.agg #[.int .i64 a0_0, .int .i64 a0_1, .slice A0_2 l0_2.length c0_2]] rfl ?_; (with_reducible refine (bitmap_Valid.calls k a0_0 a0_1 _ _ l0_2 true _ ?side1 ?side2 A10.out).mono ?_); (case side1 => exact cU (Kd.C_below HR0_2.out HB.out)); (case side2 => exact HC0_2.out); rintro e w16 ⟨rfl, hb⟩; refine ⟨_, rfl, ?_⟩; have n_ := aC (blk_below (bU BK244.out) hb) (aC (blk_below (bU BK245.out) hb) (aC (blk_below (bU BK246.out) hb) (aE (bs hb)))); clear BK244 BK245 BK246 HB; obtain ⟨BK244, BK245, BK246, HB⟩ := n_; have hnb17 := NB245_246.out; have hnc17 := NB246_245.out; obtain ⟨hcz18_0, hcz18_1, hcz18_2, hfz18_0, hfz18_1, hfz18_2⟩ := cz3f BK245.out) | (go_at_call 24; (with_reducible refine (bitmap_Valid.calls k a1_0 a1_1 _ _ l1_2 t248 _ ?side1 ?side2 A12.out).mono ?_); (case side1 => exact cU (Kd.C_below HR1_2.out HB.out)); (case side2 => exact HC1_2.out); rintro e w19 ⟨rfl, hb⟩; have n_ := aC (blk_below (bU BK244.out) hb) (aC (blk_below (bU BK245.out) hb) (aC (blk_below (bU BK246.out) hb) (aE (bs hb)))); clear BK244 BK245 BK246 HB; obtain ⟨BK244, BK245, BK246, HB⟩ := n_))
   go_meet
   case rel => exact ⟨_, (!t248), rq, H', ⟨by first | omega | exact Nat.le_refl _⟩, ⟨by exact bU BK244.out⟩, ⟨by exact bU BK245.out⟩, ⟨by exact bU BK246.out⟩, ⟨bl⟩⟩
  ·replace c11 := Bool.eq_false_iff.mpr c11
   subst c11
   rw [if_neg Bool.false_ne_true] at H
   have H' := Aside0.mk H
   clear H
   have hnb20 := NB244_245.out
   have hnc20 := NB245_244.out
   have hnb21 := NB244_246.out
   have hnc21 := NB246_244.out
   obtain ⟨hcz22_0, hcz22_1, hcz22_2, hfz22_0, hfz22_1, hfz22_2⟩ := cz3f BK244.out
   go_wp2_with (first | ((with_reducible refine gf 24 rfl ?_); refine gL (some 20) rfl rfl Try.func24 rfl #[.agg #[.int .i64 a0_0, .int .i64 a0_1, .slice A0_2 l0_2.length c0_2]] rfl ?_; (with_reducible refine (bitmap_Valid.calls k a0_0 a0_1 _ _ l0_2 false _ ?side1 ?side2 A10.out).mono ?_); (case side1 => exact cU (Kd.C_below HR0_2.out HB.out)); (case side2 => exact HC0_2.out); rintro e w23 ⟨rfl, hb⟩; refine ⟨_, rfl, ?_⟩; have n_ := aC (blk_below (bU BK244.out) hb) (aC (blk_below (bU BK245.out) hb) (aC (blk_below (bU BK246.out) hb) (aE (bs hb)))); clear BK244 BK245 BK246 HB; obtain ⟨BK244, BK245, BK246, HB⟩ := n_))
   go_meet
   case rel => exact ⟨_, (true), rq, H', ⟨by first | omega | exact Nat.le_refl _⟩, ⟨by exact bU BK244.out⟩, ⟨by exact bU BK245.out⟩, ⟨by exact bU BK246.out⟩, ⟨bl⟩⟩
 case rest =>
  clear HC6
  obtain ⟨kq, x18_5, rfl, HA, HJ5, BK244, BK245, BK246, HB⟩ := hcut
  cases kq with
  | zero => exact absurd HA.out (by simp [bitmap_Draw.j0])
  | succ kj5 =>
   have H := HA.out
   clear HA
   simp only [bitmap_Draw.j0] at H
   by_cases c24 : x18_5 = true
   ·subst c24
    rw [if_pos rfl] at H
    simp only [Option.some.injEq, Prod.mk.injEq] at H
    obtain ⟨rfl, rfl, rfl, rfl⟩ := H
    have hnb25 := NB246_244.out
    have hnc25 := NB244_246.out
    have hnb26 := NB246_245.out
    have hnc26 := NB245_246.out
    obtain ⟨hcz27_0, hcz27_1, hcz27_2, hfz27_0, hfz27_1, hfz27_2⟩ := cz3f BK246.out
    go_wp2
    refine bodyPost_ret (results_ct rfl _ _ gb246 24 #[.int .i64 0, .int .i64 0, .slice none 0 0] (0, 0) _ rfl (by (with_reducible repeat (first | refine blk_drewN ?_ _ | refine blk_drew ?_ | refine blk_alloc ?_ _)); refine blk_put (cs := #[.int .i64 0, .int .i64 0, .slice none 0 0]) ?_ 2 _ rfl; (with_reducible repeat (first | refine blk_drewN ?_ _ | refine blk_drew ?_ | refine blk_alloc ?_ _)); refine blk_put (cs := #[.int .i64 0, .int .i64 0, .slice none 0 0]) ?_ 1 _ rfl; (with_reducible repeat (first | refine blk_drewN ?_ _ | refine blk_drew ?_ | refine blk_alloc ?_ _)); refine blk_put (cs := #[.int .i64 0, .int .i64 0, .slice none 0 0]) ?_ 0 _ rfl; exact bU BK246.out) Try.underlying24 rfl (by kernel_rfl)) rfl ?_
    exact ⟨_, re, by first | exact Kd.R_nil _ _ _ _ _ | exact Kd.N_nil _ _ _ _ _ | exact Kd.V_nil _ _ _ _ _ | exact Kd.Q_nil _ _ _ _ _ | exact Kd.S_nil _ _ _ _ _, bl⟩
   ·replace c24 := Bool.eq_false_iff.mpr c24
    subst c24
    rw [if_neg Bool.false_ne_true] at H
    rcases iL H with H1 | H1 <;> clear H <;> obtain ⟨H, c28b0⟩ := H1
    ·simp only [Option.some.injEq, Prod.mk.injEq] at H
     obtain ⟨rfl, rfl, rfl, rfl⟩ := H
     have hnb29 := NB246_244.out
     have hnc29 := NB244_246.out
     have hnb30 := NB246_245.out
     have hnc30 := NB245_246.out
     obtain ⟨hcz31_0, hcz31_1, hcz31_2, hfz31_0, hfz31_1, hfz31_2⟩ := cz3f BK246.out
     go_wp2
     refine bodyPost_ret (results_ct rfl _ _ gb246 24 #[.int .i64 0, .int .i64 0, .slice none 0 0] (0, 0) _ rfl (by (with_reducible repeat (first | refine blk_drewN ?_ _ | refine blk_drew ?_ | refine blk_alloc ?_ _)); refine blk_put (cs := #[.int .i64 0, .int .i64 0, .slice none 0 0]) ?_ 2 _ rfl; (with_reducible repeat (first | refine blk_drewN ?_ _ | refine blk_drew ?_ | refine blk_alloc ?_ _)); refine blk_put (cs := #[.int .i64 0, .int .i64 0, .slice none 0 0]) ?_ 1 _ rfl; (with_reducible repeat (first | refine blk_drewN ?_ _ | refine blk_drew ?_ | refine blk_alloc ?_ _)); refine blk_put (cs := #[.int .i64 0, .int .i64 0, .slice none 0 0]) ?_ 0 _ rfl; exact bU BK246.out) Try.underlying24 rfl (by kernel_rfl)) rfl ?_
     exact ⟨_, re, by first | exact Kd.R_nil _ _ _ _ _ | exact Kd.N_nil _ _ _ _ _ | exact Kd.V_nil _ _ _ _ _ | exact Kd.Q_nil _ _ _ _ _ | exact Kd.S_nil _ _ _ _ _, bl⟩
    ·rcases iL H with H1 | H1 <;> clear H <;> obtain ⟨H, c32b0⟩ := H1
     ·simp only [Option.some.injEq, Prod.mk.injEq] at H
      obtain ⟨rfl, rfl, rfl, rfl⟩ := H
      have hnb33 := NB246_244.out
      have hnc33 := NB244_246.out
      have hnb34 := NB246_245.out
      have hnc34 := NB245_246.out
      obtain ⟨hcz35_0, hcz35_1, hcz35_2, hfz35_0, hfz35_1, hfz35_2⟩ := cz3f BK246.out
      go_wp2
      refine bodyPost_ret (results_ct rfl _ _ gb246 24 #[.int .i64 0, .int .i64 0, .slice none 0 0] (0, 0) _ rfl (by (with_reducible repeat (first | refine blk_drewN ?_ _ | refine blk_drew ?_ | refine blk_alloc ?_ _)); refine blk_put (cs := #[.int .i64 0, .int .i64 0, .slice none 0 0]) ?_ 2 _ rfl; (with_reducible repeat (first | refine blk_drewN ?_ _ | refine blk_drew ?_ | refine blk_alloc ?_ _)); refine blk_put (cs := #[.int .i64 0, .int .i64 0, .slice none 0 0]) ?_ 1 _ rfl; (with_reducible repeat (first | refine blk_drewN ?_ _ | refine blk_drew ?_ | refine blk_alloc ?_ _)); refine blk_put (cs := #[.int .i64 0, .int .i64 0, .slice none 0 0]) ?_ 0 _ rfl; exact bU BK246.out) Try.underlying24 rfl (by kernel_rfl)) rfl ?_
      exact ⟨_, re, by first | exact Kd.R_nil _ _ _ _ _ | exact Kd.N_nil _ _ _ _ _ | exact Kd.V_nil _ _ _ _ _ | exact Kd.Q_nil _ _ _ _ _ | exact Kd.S_nil _ _ _ _ _, bl⟩
     ·obtain ⟨t249, A36, H⟩ := oB H
      try dsimp only at H
      by_cases c37 : t249 = true
      ·subst c37
       rw [if_pos rfl] at H
       obtain ⟨⟨t250, t251, t252⟩, A38, H⟩ := oB H
       try dsimp only at H
       have H' := Aside0.mk H
       clear H
       go_wp2_with (first | (go_at_call 46; (with_reducible refine (bitmap_isShift.calls a2 a3 true _ A36.out).mono ?_); rintro e w39 ⟨rfl, hb⟩; have n_ := aC (blk_below (bU BK244.out) hb) (aC (blk_below (bU BK245.out) hb) (aC (blk_below (bU BK246.out) hb) (aE (bs hb)))); clear BK244 BK245 BK246 HB; obtain ⟨BK244, BK245, BK246, HB⟩ := n_; have hnb40 := NB244_245.out; have hnc40 := NB245_244.out; have hnb41 := NB244_246.out; have hnc41 := NB246_244.out; obtain ⟨hcz42_0, hcz42_1, hcz42_2, hfz42_0, hfz42_1, hfz42_2⟩ := cz3f BK244.out) | ((with_reducible refine gf 47 rfl ?_); refine gL (some 43) rfl rfl Try.func47 rfl #[.agg #[.int .i64 a0_0, .int .i64 a0_1, .slice A0_2 l0_2.length c0_2]] rfl ?_; (with_reducible refine (bitmap_clone.calls a0_0 a0_1 _ _ l0_2 t250 t251 t252 _ ?side1 ?side2 A38.out).mono ?_); (case side1 => exact cU (Kd.C_below HR0_2.out HB.out)); (case side2 => exact HC0_2.out); rintro e w43 ⟨v253, rfl, ho0, hb⟩; refine ⟨_, rfl, ?_⟩; have n_ := aC (Kd.R_lower ho0 bz) (aC (blk_below (bU BK244.out) hb) (aC (blk_below (bU BK245.out) hb) (aC (blk_below (bU BK246.out) hb) (aE (bs hb))))); clear BK244 BK245 BK246 HB; obtain ⟨HO254, BK244, BK245, BK246, HB⟩ := n_) | ((with_reducible refine gd 12 rfl ?_); refine bx 12 #[.int .i64 0, .int .i64 0, .slice none 0 0] 24 rfl rfl ?_; intro gb255 hg w44 hbox hb; have n_ := aC (Kd.R_below (rU HO254.out) hb) (aC (blk_below (bU BK244.out) hb) (aC (blk_below (bU BK245.out) hb) (aC (blk_below (bU BK246.out) hb) (aC (bs hb) (aC hbox (aC (gz hg) (aC (gz hg) (aC (gn hg (bU BK244.out)) (aC (gm hg (bU BK244.out)) (aC (gn hg (bU BK245.out)) (aC (gm hg (bU BK245.out)) (aC (gn hg (bU BK246.out)) (aE (gm hg (bU BK246.out))))))))))))))); clear HO254 BK244 BK245 BK246 HB; obtain ⟨HO254, BK244, BK245, BK246, HB, BK255, GW255, GE255, NB244_255, NB255_244, NB245_255, NB255_245, NB246_255, NB255_246⟩ := n_; clear hb hbox hg; have hnb45 := NB255_244.out; have hnc45 := NB244_255.out; have hnb46 := NB255_245.out; have hnc46 := NB245_255.out; have hnb47 := NB255_246.out; have hnc47 := NB246_255.out; obtain ⟨hcz48_0, hcz48_1, hcz48_2, hfz48_0, hfz48_1, hfz48_2⟩ := cz3f BK255.out; obtain ⟨Ao49, co49, eo49⟩ := Kd.R_slice HO254.out; subst eo49; have hnb50 := NB245_246.out; have hnc50 := NB246_245.out; obtain ⟨hcz51_0, hcz51_1, hcz51_2, hfz51_0, hfz51_1, hfz51_2⟩ := cz3f BK245.out))
       go_loopg [46] kj5 (fun kq v46 w' => ∃ (x46_2 : Int) (x256002_2 : List Int) (u256002 : Value), v46 = .int .i64 x46_2 ∧ Aside0 (bitmap_Draw.l0 kq a2 a3 a4 a1_1 x46_2 a0_0 a0_1 l0_2 a1_0 a1_1 l1_2 t250 t251 x256002_2 = some (r1, r2, r3, r4)) ∧ Aside0 (kq ≤ kj5) ∧ Aside0 (Kd.R (Kd.int .u8) 5 w' w.heap.size (fun _ => True) u256002 x256002_2) ∧ Aside0 (w'.heap[gb244]? = some (.cells #[.int .i64 a0_0, .int .i64 a0_1, (.slice A0_2 l0_2.length c0_2)] 24 (0, 0))) ∧ Aside0 (w'.heap[gb245]? = some (.cells #[.int .i64 a1_0, .int .i64 a1_1, (.slice A1_2 l1_2.length c1_2)] 24 (0, 0))) ∧ Aside0 (w'.heap[gb246]? = some (.cells #[.int .i64 0, .int .i64 0, (.slice none 0 0)] 24 (0, 0))) ∧ Aside0 (w'.heap[gb255]? = some (.cells #[.int .i64 t250, .int .i64 t251, u256002] 24 (0, 0))) ∧ Aside0 (Below w.heap.size w w'))
       case atStart => exact ⟨(0), (t252), (.slice Ao49 t252.length co49), rq, H', ⟨Nat.le_refl _⟩, ⟨rU (Kd.R_mono (Kd.R_far (p := ⟨gb255, 2, none⟩) (Kd.R_far (p := ⟨gb255, 1, none⟩) (Kd.R_far (p := ⟨gb255, 0, none⟩) (Kd.R_types HO254.out BK255.out (by decide)) (fun _ hk => hk.2) (.int .i64 t250)) (fun _ hk => hk.2) (.int .i64 t251)) (fun _ hk => hk.2) (.slice Ao49 t252.length co49)) (fun _ hk => trivial))⟩, ⟨by refine bF ?_ ?_; exact NB244_255.out; refine bF ?_ ?_; exact NB244_255.out; refine bF ?_ ?_; exact NB244_255.out; exact bU BK244.out⟩, ⟨by refine bF ?_ ?_; exact NB245_255.out; refine bF ?_ ?_; exact NB245_255.out; refine bF ?_ ?_; exact NB245_255.out; exact bU BK245.out⟩, ⟨by refine bF ?_ ?_; exact NB246_255.out; refine bF ?_ ?_; exact NB246_255.out; refine bF ?_ ?_; exact NB246_255.out; exact bU BK246.out⟩, ⟨by (with_reducible repeat (first | refine blk_drewN ?_ _ | refine blk_drew ?_ | refine blk_alloc ?_ _)); refine blk_put (cs := #[.int .i64 t250, .int .i64 t251, .slice none 0 0]) ?_ 2 _ rfl; (with_reducible repeat (first | refine blk_drewN ?_ _ | refine blk_drew ?_ | refine blk_alloc ?_ _)); refine blk_put (cs := #[.int .i64 t250, .int .i64 0, .slice none 0 0]) ?_ 1 _ rfl; (with_reducible repeat (first | refine blk_drewN ?_ _ | refine blk_drew ?_ | refine blk_alloc ?_ _)); refine blk_put (cs := #[.int .i64 0, .int .i64 0, .slice none 0 0]) ?_ 0 _ rfl; exact bU BK255.out⟩, ⟨bl⟩⟩
       case round =>
        clear H'
        obtain ⟨x46_2, x256002_2, u256002, rfl, HA, HK2, HO_256002, BK244, BK245, BK246, BK255, HB⟩ := hrel
        cases gk with
        | zero => exact absurd HA.out (by simp [bitmap_Draw.l0])
        | succ k2 =>
         have H := HA.out
         clear HA
         simp only [bitmap_Draw.l0] at H
         rcases iL H with H1 | H1 <;> clear H <;> obtain ⟨H, c52b0⟩ := H1
         ·have H' := Aside0.mk H
          clear H
          have hnb53 := NB245_244.out
          have hnc53 := NB244_245.out
          have hnb54 := NB245_246.out
          have hnc54 := NB246_245.out
          have hnb55 := NB245_255.out
          have hnc55 := NB255_245.out
          obtain ⟨hcz56_0, hcz56_1, hcz56_2, hfz56_0, hfz56_1, hfz56_2⟩ := cz3f BK245.out
          go_wp2
          go_loopg [51] k2 (fun kq v51 w' => ∃ (x51_3 : Int) (x256002_3 : List Int) (u256002 : Value), v51 = .int .i64 x51_3 ∧ Aside0 (bitmap_Draw.l1 kq a2 a3 a4 x46_2 a1_1 x46_2 a1_0 x51_3 a0_0 a0_1 l0_2 a1_0 a1_1 l1_2 t250 t251 x256002_3 = some (r1, r2, r3, r4)) ∧ Aside0 (kq ≤ k2) ∧ Aside0 (Kd.R (Kd.int .u8) 5 w' w.heap.size (fun _ => True) u256002 x256002_3) ∧ Aside0 (w'.heap[gb244]? = some (.cells #[.int .i64 a0_0, .int .i64 a0_1, (.slice A0_2 l0_2.length c0_2)] 24 (0, 0))) ∧ Aside0 (w'.heap[gb245]? = some (.cells #[.int .i64 a1_0, .int .i64 a1_1, (.slice A1_2 l1_2.length c1_2)] 24 (0, 0))) ∧ Aside0 (w'.heap[gb246]? = some (.cells #[.int .i64 0, .int .i64 0, (.slice none 0 0)] 24 (0, 0))) ∧ Aside0 (w'.heap[gb255]? = some (.cells #[.int .i64 t250, .int .i64 t251, u256002] 24 (0, 0))) ∧ Aside0 (Below w.heap.size w w'))
          case atStart => exact ⟨(0), (x256002_2), (u256002), rq, H', ⟨Nat.le_refl _⟩, ⟨rU HO_256002.out⟩, ⟨by exact bU BK244.out⟩, ⟨by exact bU BK245.out⟩, ⟨by exact bU BK246.out⟩, ⟨by exact bU BK255.out⟩, ⟨bl⟩⟩
          case round =>
           clear H'
           obtain ⟨x51_3, x256002_3, u256002, rfl, HA, HK3, HO_256002, BK244, BK245, BK246, BK255, HB⟩ := hrel
           cases gk with
           | zero => exact absurd HA.out (by simp [bitmap_Draw.l1])
           | succ k3 =>
            have H := HA.out
            clear HA
            simp only [bitmap_Draw.l1] at H
            rcases iL H with H1 | H1 <;> clear H <;> obtain ⟨H, c57b0⟩ := H1
            ·have HC58 := Aside0.mk H
             clear H
             go_upto_region 13 with (fail)
             go_cut [77] (fun v77 wc => ∃ (kq : Nat) (x77_57 : Bool), v77 = .bool x77_57 ∧ Aside0 (bitmap_Draw.j3 kq a2 a3 a4 x46_2 x51_3 (wrap64 (a2 + x51_3)) (wrap64 (a3 + x46_2)) a1_1 x46_2 a1_0 x51_3 x77_57 a0_0 a0_1 l0_2 a1_0 a1_1 l1_2 t250 t251 x256002_3 = some (r1, r2, r3, r4)) ∧ Aside0 (kq ≤ k3) ∧ Aside0 (Kd.R (Kd.int .u8) 5 wc w.heap.size (fun _ => True) u256002 x256002_3) ∧ Aside0 (wc.heap[gb244]? = some (.cells #[.int .i64 a0_0, .int .i64 a0_1, (.slice A0_2 l0_2.length c0_2)] 24 (0, 0))) ∧ Aside0 (wc.heap[gb245]? = some (.cells #[.int .i64 a1_0, .int .i64 a1_1, (.slice A1_2 l1_2.length c1_2)] 24 (0, 0))) ∧ Aside0 (wc.heap[gb246]? = some (.cells #[.int .i64 0, .int .i64 0, (.slice none 0 0)] 24 (0, 0))) ∧ Aside0 (wc.heap[gb255]? = some (.cells #[.int .i64 t250, .int .i64 t251, u256002] 24 (0, 0))) ∧ Aside0 (Below w.heap.size w wc))
             case first =>
              have H := HC58.out
              clear HC58
              rcases iL H with H1 | H1 <;> clear H <;> obtain ⟨H, c59b0⟩ := H1
              ·(first | rw [c59b0] | (simp only [i64_w, i32_w]; rw [c59b0]) | skip)
               rcases iL H with H1 | H1 <;> clear H <;> obtain ⟨H, c60b0⟩ := H1
               ·rcases iL H with H1 | H1 <;> clear H <;> obtain ⟨H, c61b0⟩ := H1
                ·have H' := Aside0.mk H
                 clear H
                 have hnb62 := NB244_245.out
                 have hnc62 := NB245_244.out
                 have hnb63 := NB244_246.out
                 have hnc63 := NB246_244.out
                 have hnb64 := NB244_255.out
                 have hnc64 := NB255_244.out
                 obtain ⟨hcz65_0, hcz65_1, hcz65_2, hfz65_0, hfz65_1, hfz65_2⟩ := cz3f BK244.out
                 go_wp2
                 go_meet
                 case rel => exact ⟨_, (decide ((wrap64 (a3 + x46_2)) < a0_1)), rq, H', ⟨by have := HJ5.out; have := HK2.out; have := HK3.out; first | omega | exact Nat.le_refl _⟩, ⟨rU HO_256002.out⟩, ⟨by exact bU BK244.out⟩, ⟨by exact bU BK245.out⟩, ⟨by exact bU BK246.out⟩, ⟨by exact bU BK255.out⟩, ⟨bl⟩⟩
                ·have H' := Aside0.mk H
                 clear H
                 have hnb66 := NB244_245.out
                 have hnc66 := NB245_244.out
                 have hnb67 := NB244_246.out
                 have hnc67 := NB246_244.out
                 have hnb68 := NB244_255.out
                 have hnc68 := NB255_244.out
                 obtain ⟨hcz69_0, hcz69_1, hcz69_2, hfz69_0, hfz69_1, hfz69_2⟩ := cz3f BK244.out
                 go_wp2
                 go_meet
                 case rel => exact ⟨_, (false), rq, H', ⟨by have := HJ5.out; have := HK2.out; have := HK3.out; first | omega | exact Nat.le_refl _⟩, ⟨rU HO_256002.out⟩, ⟨by exact bU BK244.out⟩, ⟨by exact bU BK245.out⟩, ⟨by exact bU BK246.out⟩, ⟨by exact bU BK255.out⟩, ⟨bl⟩⟩
               ·have H' := Aside0.mk H
                clear H
                go_wp2
                go_meet
                case rel => exact ⟨_, (false), rq, H', ⟨by have := HJ5.out; have := HK2.out; have := HK3.out; first | omega | exact Nat.le_refl _⟩, ⟨rU HO_256002.out⟩, ⟨by exact bU BK244.out⟩, ⟨by exact bU BK245.out⟩, ⟨by exact bU BK246.out⟩, ⟨by exact bU BK255.out⟩, ⟨bl⟩⟩
              ·(first | rw [c59b0] | (simp only [i64_w, i32_w]; rw [c59b0]) | skip)
               have H' := Aside0.mk H
               clear H
               go_wp2
               go_meet
               case rel => exact ⟨_, (false), rq, H', ⟨by have := HJ5.out; have := HK2.out; have := HK3.out; first | omega | exact Nat.le_refl _⟩, ⟨rU HO_256002.out⟩, ⟨by exact bU BK244.out⟩, ⟨by exact bU BK245.out⟩, ⟨by exact bU BK246.out⟩, ⟨by exact bU BK255.out⟩, ⟨bl⟩⟩
             case rest =>
              clear HC58
              obtain ⟨kq, x77_57, rfl, HA, HJ57, HO_256002, BK244, BK245, BK246, BK255, HB⟩ := hcut
              cases kq with
              | zero => exact absurd HA.out (by simp [bitmap_Draw.j3])
              | succ kj57 =>
               have H := HA.out
               clear HA
               simp only [bitmap_Draw.j3] at H
               by_cases c70 : x77_57 = true
               ·subst c70
                rw [if_pos rfl] at H
                obtain ⟨ji71, hji71⟩ : ∃ j_ : Int, (wrap64 ((wrap64 ((wrap64 (a3 + x46_2)) * a0_0)) + (wrap64 (a2 + x51_3)))) = j_ := ⟨_, rfl⟩
                replace H : (if 0 ≤ (ji71) then (if (ji71) < (x256002_3.length : Int) then ((bitmap_at.f a1_0 a1_1 l1_2 x51_3 x46_2).bind fun t256 => ((bitmap_combine.f (rd x256002_3 (ji71)) t256 a4).bind fun t257 => (bitmap_Draw.l1 kj57 a2 a3 a4 x46_2 a1_1 x46_2 a1_0 (wrap64 (x51_3 + 1)) a0_0 a0_1 l0_2 a1_0 a1_1 l1_2 t250 t251 (x256002_3.set ((ji71) : Int).toNat t257)))) else (none)) else (none)) = some (r1, r2, r3, r4) := by first | (rw [hji71] at H; exact H) | (simp only [hji71] at H ⊢; exact H)
                have hji71w : (IntKind.i64.wrap ((wrap64 ((wrap64 (a3 + x46_2)) * a0_0)) + (wrap64 (a2 + x51_3)))) = ji71 := (i64_w _).trans hji71
                by_cases c72 : 0 ≤ (ji71)
                ·rw [if_pos c72] at H
                 have c72b0 := decide_eq_true c72
                 clear c72
                 by_cases c73 : (ji71) < (x256002_3.length : Int)
                 ·rw [if_pos c73] at H
                  have c73b0 := decide_eq_true c73
                  clear c73
                  obtain ⟨t256, A75, H⟩ := oB H
                  try dsimp only at H
                  obtain ⟨t257, A76, H⟩ := oB H
                  try dsimp only at H
                  obtain ⟨y258, hy_⟩ : ∃ y_ : List Int, y_ = (x256002_3.set ((ji71) : Int).toNat t257) := ⟨_, rfl⟩
                  replace H : (bitmap_Draw.l1 kj57 a2 a3 a4 x46_2 a1_1 x46_2 a1_0 (wrap64 (x51_3 + 1)) a0_0 a0_1 l0_2 a1_0 a1_1 l1_2 t250 t251 y258) = some (r1, r2, r3, r4) := rh
                  have Ny258 := aE hy_
                  clear hy_
                  have H' := Aside0.mk H
                  clear H
                  have hnb77 := NB255_244.out
                  have hnc77 := NB244_255.out
                  have hnb78 := NB255_245.out
                  have hnc78 := NB245_255.out
                  have hnb79 := NB255_246.out
                  have hnc79 := NB246_255.out
                  obtain ⟨hcz80_0, hcz80_1, hcz80_2, hfz80_0, hfz80_1, hfz80_2⟩ := cz3f BK255.out
                  have hnb81 := NB244_245.out
                  have hnc81 := NB245_244.out
                  have hnb82 := NB244_246.out
                  have hnc82 := NB246_244.out
                  obtain ⟨hcz83_0, hcz83_1, hcz83_2, hfz83_0, hfz83_1, hfz83_2⟩ := cz3f BK244.out
                  have p74 : 0 ≤ ((ji71) : Int) := dt
                  have q74 : ((ji71) : Int) < ((x256002_3.length : Int) : Int) := dt
                  obtain ⟨go74, co74, eo74, gb74, gl74, cl74, HG74⟩ := Kd.R_form HO_256002.out (by omega)
                  (first | cases eo74 | (injection eo74 with ea_ en_ ec_; (first | subst ea_ | (injection ea_ with ea_; subst ea_)); subst ec_; clear en_))
                  have GB74 := Aside0.mk gb74
                  have GG74 := Aside0.mk HG74
                  clear gb74 gl74 HG74
                  obtain ⟨hx74_0, hf74_0⟩ := Kd.R_celln 0 HO_256002.out ((ji71) : Int) p74 q74
                  replace p74 := eq_true p74
                  replace q74 := eq_true q74
                  try go_wp2
                  have n_ := aC (Kd.R_drew HO_256002.out) (aC (blk_drew BK244.out) (aC (blk_drew BK245.out) (aC (blk_drew BK246.out) (aC (blk_drew BK255.out) (aE (below_drew1 HB.out))))))
                  clear HO_256002 BK244 BK245 BK246 BK255 HB
                  obtain ⟨HO_256002, BK244, BK245, BK246, BK255, HB⟩ := n_
                  refine st 12 (fun w' => w'.cell? ⟨gb245, 0, none⟩ = some (.int .i64 a1_0) ∧ w'.cell? ⟨gb245, 1, none⟩ = some (.int .i64 a1_1) ∧ w'.cell? ⟨gb245, 2, none⟩ = some (.slice A1_2 l1_2.length c1_2) ∧ w'.cell? ⟨go74, ji71.toNat, none⟩ = some (.int .u8 (rd x256002_3 (ji71)))) [11] (bv 12 0) bitmap_Draw.tab15 bitmap_Draw.bits15 ⟨kc0 BK245.out, kc1 BK245.out, kc2 BK245.out, (Kd.R_celln 0 HO_256002.out ((ji71) : Int) (of_eq_true p74) (of_eq_true q74)).1⟩ (fun hHeld HT_ HW_ => ?_)
                  generalize wc.drew = w84 at HO_256002 BK244 BK245 BK246 BK255 HB hHeld ⊢
                  refine pu 0 87 (bv 12 1) HT_ rfl rfl ?_
                  refine pu 1 88 (bv 12 3) HT_ rfl rfl ?_
                  refine pu 2 89 (bv 12 7) HT_ rfl rfl ?_
                  refine pu 5 92 (bv 12 39) HT_ rfl rfl ?_
                  refine pu 6 93 (bv 12 103) HT_ rfl rfl ?_
                  refine pu 8 95 (bv 12 359) HT_ rfl rfl ?_
                  refine tk 3 90 (bv 12 367) HT_ HW_ hHeld rfl rfl (by rintro w' ⟨s0, s1, s2, s99⟩; exact yl) ?_
                  refine tk 4 91 (bv 12 383) HT_ HW_ hHeld rfl rfl (by rintro w' ⟨s0, s1, s2, s99⟩; exact yl) ?_
                  refine one_ (i := 7) (N := some 94) (bv 12 511) rfl rfl (one_of HT_.out (by kernel_rfl)) (by decide) (fun K hK => ?_)
                  refine gK Try.func49 rfl #[.agg #[.int .i64 a1_0, .int .i64 a1_1, .slice A1_2 l1_2.length c1_2], .int .i64 x51_3, .int .i64 x46_2] rfl rfl ?_
                  with_reducible refine (bitmap_at.calls a1_0 a1_1 _ _ l1_2 x51_3 x46_2 t256 _ ?side1 ?side2 A75.out).mono ?_
                  (case side1 => exact cU (Kd.C_below HR1_2.out HB.out))
                  (case side2 => exact HC1_2.out)
                  rintro e w85 ⟨rfl, hb⟩
                  refine ⟨_, rfl, ?_⟩
                  have n_ := aC (Kd.R_below (rU HO_256002.out) hb) (aC (blk_below (bU BK244.out) hb) (aC (blk_below (bU BK245.out) hb) (aC (blk_below (bU BK246.out) hb) (aC (blk_below (bU BK255.out) hb) (aE (bs hb))))))
                  clear HO_256002 BK244 BK245 BK246 BK255 HB
                  obtain ⟨HO_256002, BK244, BK245, BK246, BK255, HB⟩ := n_
                  (try clear hb)
                  (try clear hb2)
                  (try clear hk)
                  (try clear hi)
                  refine hK.out _ _ ⟨kc0 BK245.out, kc1 BK245.out, kc2 BK245.out, (Kd.R_celln 0 HO_256002.out ((ji71) : Int) (of_eq_true p74) (of_eq_true q74)).1⟩ (fun hHeld => ?_)
                  clear hK K
                  refine nm (some 94) ?_
                  refine one_ (i := 9) (N := some 96) (bv 12 1023) rfl rfl (one_of HT_.out (by kernel_rfl)) (by decide) (fun K hK => ?_)
                  refine goes_ Try.func48 (by kernel_rfl) rfl #[.int .u8 (rd x256002_3 (ji71)), .int .u8 t256, .int .i64 a4] (by rfl) rfl rfl (by (try simp only [List.map_toArray, List.map_cons, List.map_nil]); first | done | (simp only [hji71]; rfl) | rfl | (simp only [List.length_drop, List.length_take]; rfl)) ?_
                  with_reducible refine (bitmap_combine.calls (rd x256002_3 (ji71)) t256 a4 t257 _ A76.out).mono ?_
                  rintro e w' ⟨rfl, ⟨nd, rfl⟩⟩
                  refine ⟨_, rfl, ?_⟩
                  obtain ⟨hx99_0, hf99_0⟩ := (Kd.R_celln 0 HO_256002.out ((ji71) : Int) (of_eq_true p74) (of_eq_true q74))
                  have HP86 := Kd.R_putn HO_256002.out ((ji71) : Int) t257
                  rw [← Ny258.out] at HP86
                  have HQ86 := Aside0.mk HP86
                  clear HP86
                  refine hK.out _ _ ⟨kc0 BK245.out, kc1 BK245.out, kc2 BK245.out, (Kd.R_celln 0 HO_256002.out ((ji71) : Int) (of_eq_true p74) (of_eq_true q74)).1⟩ (fun hHeld => ?_)
                  clear hK K
                  refine nm (some 96) ?_
                  refine pu 10 97 (bv 12 2047) HT_ rfl rfl ?_
                  refine last_ (i := 11) (N := none) (bv 12 4095) rfl rfl (one_of HT_.out (by kernel_rfl)) (by decide) (fun K hK => ?_)
                  refine skip_ (w1 := ?_) (by rfl) rfl ?_ ?_
                  rotate_left
                  ·go_simp
                   rfl
                  refine hK.out _ _ ?_
                  clear hK K
                  refine done_ (done_of HT_.out (by kernel_rfl)) ?_
                  try go_wp2
                  go_roundg kj57
                  case measure => have := HJ5.out; have := HK2.out; have := HK3.out; have := HJ57.out; omega
                  case rel => exact ⟨(wrap64 (x51_3 + 1)), (y258), (.slice (some ⟨go74, 0, none⟩) x256002_3.length co74), rq, H', ⟨by have := HJ5.out; have := HK2.out; have := HK3.out; have := HJ57.out; omega⟩, ⟨by (with_reducible repeat (first | apply Kd.R_alloc | apply Kd.R_drewN | apply Kd.R_drew)); exact HQ86.out⟩, ⟨by (with_reducible repeat (first | refine blk_drewN ?_ _ | refine blk_drew ?_ | refine blk_alloc ?_ _)); refine blk_far ?_ (by have h_ := Kd.R_ne HO_256002.out BK244.out (by decide); intro e_; exact h_ (by rw [e_]; rfl)) _; exact bU BK244.out⟩, ⟨by (with_reducible repeat (first | refine blk_drewN ?_ _ | refine blk_drew ?_ | refine blk_alloc ?_ _)); refine blk_far ?_ (by have h_ := Kd.R_ne HO_256002.out BK245.out (by decide); intro e_; exact h_ (by rw [e_]; rfl)) _; exact bU BK245.out⟩, ⟨by (with_reducible repeat (first | refine blk_drewN ?_ _ | refine blk_drew ?_ | refine blk_alloc ?_ _)); refine blk_far ?_ (by have h_ := Kd.R_ne HO_256002.out BK246.out (by decide); intro e_; exact h_ (by rw [e_]; rfl)) _; exact bU BK246.out⟩, ⟨by (with_reducible repeat (first | refine blk_drewN ?_ _ | refine blk_drew ?_ | refine blk_alloc ?_ _)); refine blk_far ?_ (by have h_ := Kd.R_ne HO_256002.out BK255.out (by decide); intro e_; exact h_ (by rw [e_]; rfl)) _; exact bU BK255.out⟩, ⟨by repeat (first | (with_reducible first | exact HB.out | apply below_alloc | apply pw_below_drewN | apply below_drew1 | refine below_set ?_ GB74.out | refine below_set ?_ GE244.out | refine below_set ?_ GE245.out | refine below_set ?_ GE246.out | refine below_set ?_ GE255.out) | exact HB.out)⟩⟩
                 ·rw [if_neg c73] at H
                  exact absurd H (by simp)
                ·rw [if_neg c72] at H
                 exact absurd H (by simp)
               ·replace c70 := Bool.eq_false_iff.mpr c70
                subst c70
                rw [if_neg Bool.false_ne_true] at H
                have H' := Aside0.mk H
                clear H
                go_wp2
                go_roundg kj57
                case measure => have := HJ5.out; have := HK2.out; have := HK3.out; have := HJ57.out; omega
                case rel => exact ⟨(wrap64 (x51_3 + 1)), (x256002_3), (u256002), rq, H', ⟨by have := HJ5.out; have := HK2.out; have := HK3.out; have := HJ57.out; omega⟩, ⟨rU HO_256002.out⟩, ⟨by exact bU BK244.out⟩, ⟨by exact bU BK245.out⟩, ⟨by exact bU BK246.out⟩, ⟨by exact bU BK255.out⟩, ⟨bl⟩⟩
            ·have H' := Aside0.mk H
             clear H
             go_wp2
             go_roundg k3
             case measure => have := HJ5.out; have := HK2.out; have := HK3.out; omega
             case rel => exact ⟨(wrap64 (x46_2 + 1)), (x256002_3), (u256002), rq, H', ⟨by have := HJ5.out; have := HK2.out; have := HK3.out; omega⟩, ⟨rU HO_256002.out⟩, ⟨by exact bU BK244.out⟩, ⟨by exact bU BK245.out⟩, ⟨by exact bU BK246.out⟩, ⟨by exact bU BK255.out⟩, ⟨bl⟩⟩
         ·simp only [Option.some.injEq, Prod.mk.injEq] at H
          obtain ⟨rfl, rfl, rfl, rfl⟩ := H
          have hnb87 := NB255_244.out
          have hnc87 := NB244_255.out
          have hnb88 := NB255_245.out
          have hnc88 := NB245_255.out
          have hnb89 := NB255_246.out
          have hnc89 := NB246_255.out
          obtain ⟨hcz90_0, hcz90_1, hcz90_2, hfz90_0, hfz90_1, hfz90_2⟩ := cz3f BK255.out
          have hnb91 := NB246_244.out
          have hnc91 := NB244_246.out
          have hnb92 := NB246_245.out
          have hnc92 := NB245_246.out
          obtain ⟨hcz93_0, hcz93_1, hcz93_2, hfz93_0, hfz93_1, hfz93_2⟩ := cz3f BK246.out
          obtain ⟨Ao94, co94, eo94⟩ := Kd.R_slice HO_256002.out
          subst eo94
          go_wp2
          refine bodyPost_ret (results_ct rfl _ _ gb246 24 #[.int .i64 t250, .int .i64 t251, .slice Ao94 x256002_2.length co94] (0, 0) _ rfl (by (with_reducible repeat (first | refine blk_drewN ?_ _ | refine blk_drew ?_ | refine blk_alloc ?_ _)); refine blk_put (cs := #[.int .i64 t250, .int .i64 t251, .slice none 0 0]) ?_ 2 _ rfl; (with_reducible repeat (first | refine blk_drewN ?_ _ | refine blk_drew ?_ | refine blk_alloc ?_ _)); refine blk_put (cs := #[.int .i64 t250, .int .i64 0, .slice none 0 0]) ?_ 1 _ rfl; (with_reducible repeat (first | refine blk_drewN ?_ _ | refine blk_drew ?_ | refine blk_alloc ?_ _)); refine blk_put (cs := #[.int .i64 0, .int .i64 0, .slice none 0 0]) ?_ 0 _ rfl; exact bU BK246.out) Try.underlying24 rfl (by kernel_rfl)) rfl ?_
          exact ⟨_, re, rU (Kd.R_mono (Kd.R_far (p := ⟨gb246, 2, none⟩) (Kd.R_far (p := ⟨gb246, 1, none⟩) (Kd.R_far (p := ⟨gb246, 0, none⟩) (Kd.R_types HO_256002.out BK246.out (by decide)) (fun _ hk => hk.2) (.int .i64 t250)) (fun _ hk => hk.2) (.int .i64 t251)) (fun _ hk => hk.2) (.slice Ao94 x256002_2.length co94)) (fun _ hk => trivial)), bl⟩
      ·replace c37 := Bool.eq_false_iff.mpr c37
       subst c37
       rw [if_neg Bool.false_ne_true] at H
       simp only [Option.some.injEq, Prod.mk.injEq] at H
       obtain ⟨rfl, rfl, rfl, rfl⟩ := H
       go_wp2_with (first | (go_at_call 46; (with_reducible refine (bitmap_isShift.calls a2 a3 false _ A36.out).mono ?_); rintro e w95 ⟨rfl, hb⟩; have n_ := aC (blk_below (bU BK244.out) hb) (aC (blk_below (bU BK245.out) hb) (aC (blk_below (bU BK246.out) hb) (aE (bs hb)))); clear BK244 BK245 BK246 HB; obtain ⟨BK244, BK245, BK246, HB⟩ := n_; have hnb96 := NB246_244.out; have hnc96 := NB244_246.out; have hnb97 := NB246_245.out; have hnc97 := NB245_246.out; obtain ⟨hcz98_0, hcz98_1, hcz98_2, hfz98_0, hfz98_1, hfz98_2⟩ := cz3f BK246.out))
       refine bodyPost_ret (results_ct rfl _ _ gb246 24 #[.int .i64 0, .int .i64 0, .slice none 0 0] (0, 0) _ rfl (by (with_reducible repeat (first | refine blk_drewN ?_ _ | refine blk_drew ?_ | refine blk_alloc ?_ _)); refine blk_put (cs := #[.int .i64 0, .int .i64 0, .slice none 0 0]) ?_ 2 _ rfl; (with_reducible repeat (first | refine blk_drewN ?_ _ | refine blk_drew ?_ | refine blk_alloc ?_ _)); refine blk_put (cs := #[.int .i64 0, .int .i64 0, .slice none 0 0]) ?_ 1 _ rfl; (with_reducible repeat (first | refine blk_drewN ?_ _ | refine blk_drew ?_ | refine blk_alloc ?_ _)); refine blk_put (cs := #[.int .i64 0, .int .i64 0, .slice none 0 0]) ?_ 0 _ rfl; exact bU BK246.out) Try.underlying24 rfl (by kernel_rfl)) rfl ?_
       exact ⟨_, re, by first | exact Kd.R_nil _ _ _ _ _ | exact Kd.N_nil _ _ _ _ _ | exact Kd.V_nil _ _ _ _ _ | exact Kd.Q_nil _ _ _ _ _ | exact Kd.S_nil _ _ _ _ _, bl⟩
end Go.Proofs.Ytnnbfkmmjclhaaa.PScanSpecks
