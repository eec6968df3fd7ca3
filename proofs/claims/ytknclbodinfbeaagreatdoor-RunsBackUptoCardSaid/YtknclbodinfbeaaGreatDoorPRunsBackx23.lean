-- printed (wip/tools/myprint.py)
import Derived.Test.YtknclbodinfbeaaGreatDoorPRunsBackx0
import Derived.Test.YtknclbodinfbeaaGreatDoorPRunsBackx1
import Derived.Test.YtknclbodinfbeaaGreatDoorPRunsBackx7
import Derived.Test.YtknclbodinfbeaaGreatDoorPRunsBackx9
import Derived.Test.YtknclbodinfbeaaGreatDoorPRunsBackx10
import Derived.Test.YtknclbodinfbeaaGreatDoorPRunsBackx15
import Derived.Test.YtknclbodinfbeaaGreatDoorPRunsBackx16
import Derived.Test.YtknclbodinfbeaaGreatDoorPRunsBackx21
import Derived.Test.YtknclbodinfbeaaGreatDoorPRunsBackx22
namespace Go.Proofs.YtknclbodinfbeaaGreatDoor.PRunsBack
open Go.RowKit Go.Proofs.YtknclbodinfbeaaGreatDoorW.PrintWords Go.Proofs.YtknclbodinfbeaaGreatDoorW.PrintLast Go.Proofs.YtknclbodinfbeaaGreatDoorW.PrintMore
attribute [local go_sem] yo ym yC yD xU xT yn yq
set_option linter.unusedVariables false
set_option linter.unusedSimpArgs false
set_option maxHeartbeats 16000000
set_option maxRecDepth 100000
theorem nz {P : Program} {ops : Array Oper} {Q : Exit → Act → World → Prop} {md : Region.Mode} {S : World → Prop} {ds : List Nat} {fuel : Nat} {l : Array Bool} {a a' : Act} {w : World} (h : wW P md ops Q S ds fuel l a' w) (ha : a = a' := by first | (simp only [yf, Act.put, List.setIfInBounds_toArray, List.set_cons_zero, List.set_cons_succ]; done) | (simp only [yf, Act.put, List.setIfInBounds_toArray, List.set_cons_zero, List.set_cons_succ]; rfl)) : wW P md ops Q S ds fuel l a w := yQ ha h
/-- THE ONE PURE STATEMENT of RunsBack. -/
def wH.Pure : Prop := ∀ (d : Int) (e : Int) (j : List Int) (l1 : List Int), ((Lit.int .i64 d).wf = true) → ((Lit.int .i64 e).wf = true) → (j.length ≤ 9223372036854775807 ∧ j.length * 1 ≤ 140737488351232 ∧ ∀ q ∈ j, (Lit.int .u8 q).wf = true) → (l1.length ≤ 1048576 ∧ ∀ r ∈ l1, (Lit.int .u8 r).wf = true) →
 ∃ k, (xk.f k d e j = some false ∧ we.f k = some true) ∨ (xk.f k d e j = some true ∧ ∃ r1 r2 o1 o2 : List Int, xw.f k d e j = some (r1, 0) ∧ xt.f k d e j = some (r2, 0) ∧ r1.length ≤ 2000000 ∧ r2.length ≤ 2000000 ∧
  zf.f k (r1 ++ l1) d e = some (d, e, j, (o1.length : Int), 0) ∧ ze.f k (r2 ++ l1) d e = some (d, e, j, (o2.length : Int), 0) ∧ vx.f k d e j d e j = some true ∧ vA.f k d e j = some o1 ∧ vv.f k d e j = some o2 ∧ we.f k = some true)
def wH.T7 : Bool × List (List Nat × List Nat) := (true, [([], []), ([], []), ([0, 1], [0, 1]), ([], []), ([2, 3, 2], [2, 3]), ([], []), ([5], [5]), ([], []), ([7], [7]), ([4, 6, 8, 4], [4, 6, 8]), ([9], [9]), ([10], [10]), ([10], [10]), ([10], [10]), ([], []), ([14, 11, 9, 0, 1, 2, 3, 4, 5, 6, 7, 8, 9, 10, 11, 14], [11, 14]), ([12, 15, 0, 1, 2, 3, 4, 5, 6, 7, 8, 9, 10, 11, 12, 14, 15], [12]), ([13, 16, 0, 1, 2, 3, 4, 5, 6, 7, 8, 9, 10, 11, 12, 13, 14, 15, 16], [13])])
def wH.B7 : List Nat := [0, 0, 3, 0, 15, 0, 32, 0, 128, 511, 1023, 2047, 2047, 2047, 0, 20479, 57343, 131071]
theorem wH.tab7 : zi .any (opsOf Tryz.f3 7) = wH.T7 := by kernel_rfl
theorem wH.bits7 : yv wH.T7.2 wH.B7 = true := by kernel_rfl
def wH.T8 : Bool × List (List Nat × List Nat) := (true, [([], []), ([], []), ([0, 1], [0, 1]), ([], []), ([2, 3, 2], [2, 3]), ([], []), ([5], [5]), ([], []), ([7], [7]), ([4, 6, 8, 4], [4, 6, 8]), ([9], [9]), ([10], [10]), ([10], [10]), ([10], [10]), ([], []), ([14, 11, 9, 0, 1, 2, 3, 4, 5, 6, 7, 8, 9, 10, 11, 14], [11, 14]), ([12, 15, 0, 1, 2, 3, 4, 5, 6, 7, 8, 9, 10, 11, 12, 14, 15], [12]), ([13, 16, 0, 1, 2, 3, 4, 5, 6, 7, 8, 9, 10, 11, 12, 13, 14, 15, 16], [13])])
def wH.B8 : List Nat := [0, 0, 3, 0, 15, 0, 32, 0, 128, 511, 1023, 2047, 2047, 2047, 0, 20479, 57343, 131071]
theorem wH.tab8 : zi .any (opsOf Tryz.f3 8) = wH.T8 := by kernel_rfl
theorem wH.bits8 : yv wH.T8.2 wH.B8 = true := by kernel_rfl
theorem wH.walk (P : wH.Pure) (d : Int) (q : Int) (y : Option Addr) (z : Nat) (r : List Int) (A1 : Option Addr) (c1 : Nat) (l1 : List Int) (w : World) (hT0 : TIs w) (hr0_2 : Kd.C (Kd.int .u8) w y r.length r) (I : r.length ≤ z) (hr1 : Kd.C (Kd.int .u8) w A1 l1.length l1) (X : l1.length ≤ c1) (g0_0 : (Lit.int .i64 d).wf = true) (g0_1 : (Lit.int .i64 q).wf = true) (g0_2 : r.length ≤ 9223372036854775807 ∧ r.length * 1 ≤ 140737488351232 ∧ ∀ a2 ∈ r, (Lit.int .u8 a2).wf = true) (g1 : l1.length ≤ 1048576 ∧ ∀ a3 ∈ l1, (Lit.int .u8 a3).wf = true) :
  Calls Tryz.prog 3 #[.agg #[.int .i64 d, .int .i64 q, .slice y r.length z], .slice A1 l1.length c1] w fun e w' => e = .returned (.bool true) ∧ Below w.heap.size w w' := by
 have hu24 := Tryz.underlying24
 obtain ⟨k, hP⟩ := P d q r l1 g0_0 g0_1 g0_2 g1
 have G := aE g1.1
 have HTI := aE hT0
 have s := aE hr0_2
 have u := aE I
 have a4 := aE hr1
 have b1 := aE X
 clear g0_0 g0_1 g0_2 g1 P hT0 hr0_2 I hr1 X
 have HB := bR w
 rcases hP with ⟨A3, Y⟩ | ⟨A3, r1, r2, o1, o2, A5, A6, S1, S2, J, L, M, Z, a0, a1⟩
 ·have A3 := aE A3
  have Y := aE Y
  go_enter Tryz.func3, Tryz.ntmps3
  go_wp2_with (first | ((with_reducible refine gd 2 rfl ?_); (try (refine xK (by rfl) ?_; dsimp only)); refine bx 2 #[.int .i64 d, .int .i64 q, .slice y r.length z] 24 rfl rfl ?_; intro gb hg w8 hbox hb; have n_ := aC (bs hb) (aC hbox (aE (gz hg))); clear HB; obtain ⟨HB, BK, GW⟩ := n_; clear hb hbox hg; obtain ⟨B, D, hz2, hf0, hf1, hf2⟩ := yk BK.out) | ((with_reducible refine gf 4 rfl ?_); refine gL (some 14) rfl rfl Tryz.func4 rfl #[.agg #[.int .i64 d, .int .i64 q, .slice y r.length z]] rfl ?_; (with_reducible refine (xk.calls k d q _ _ r false _ ?side1 ?side2 A3.out).mono ?_); (case side1 => exact cU (Kd.wz s.out HB.out)); (case side2 => exact u.out); rintro e a5 ⟨rfl, hb⟩; refine ⟨_, rfl, ?_⟩; have n_ := aC (vp (bU BK.out) hb) (aE (bs hb)); clear BK HB; obtain ⟨BK, HB⟩ := n_; obtain ⟨B, D, hz2, hf0, hf1, hf2⟩ := yk BK.out) | ((with_reducible refine gf 5 rfl ?_); refine gL (some 16) rfl rfl Tryz.func5 rfl #[] rfl ?_; (with_reducible refine (we.calls k true _ (TIs.on HTI) Y.out).mono ?_); rintro e a6 ⟨rfl, hb⟩; refine ⟨_, rfl, ?_⟩; have n_ := aE (bs hb); clear HB; have HB := n_))
  go_ret
  exact ⟨re, bl⟩
 ·have A3 := aE A3
  have A5 := aE A5
  have A6 := aE A6
  have J := aE J
  have L := aE L
  have M := aE M
  have Z := aE Z
  have a0 := aE a0
  have a1 := aE a1
  have O := aE S1
  have T := aE S2
  clear S1 S2
  go_enter Tryz.func3, Tryz.ntmps3
  go_upto_region 7 with (first | ((with_reducible refine gd 2 rfl ?_); (try (refine xK (by rfl) ?_; dsimp only)); refine bx 2 #[.int .i64 d, .int .i64 q, .slice y r.length z] 24 rfl rfl ?_; intro gb hg w8 hbox hb; have n_ := aC (bs hb) (aC hbox (aE (gz hg))); clear HB; obtain ⟨HB, BK, GW⟩ := n_; clear hb hbox hg; obtain ⟨B, D, hz2, hf0, hf1, hf2⟩ := yk BK.out) | ((with_reducible refine gf 4 rfl ?_); refine gL (some 14) rfl rfl Tryz.func4 rfl #[.agg #[.int .i64 d, .int .i64 q, .slice y r.length z]] rfl ?_; (with_reducible refine (xk.calls k d q _ _ r true _ ?side1 ?side2 A3.out).mono ?_); (case side1 => exact cU (Kd.wz s.out HB.out)); (case side2 => exact u.out); rintro e a5 ⟨rfl, hb⟩; refine ⟨_, rfl, ?_⟩; have n_ := aC (vp (bU BK.out) hb) (aE (bs hb)); clear BK HB; obtain ⟨BK, HB⟩ := n_; obtain ⟨B, D, hz2, hf0, hf1, hf2⟩ := yk BK.out) | ((with_reducible refine gf 6 rfl ?_); refine gL (some 19) rfl rfl Tryz.func6 rfl #[.agg #[.int .i64 d, .int .i64 q, .slice y r.length z]] rfl ?_; (with_reducible refine (xw.calls k d q _ _ r r1 0 _ ?side1 ?side2 A5.out).mono ?_); (case side1 => exact cU (Kd.wz s.out HB.out)); (case side2 => exact u.out); rintro e a6 ⟨v_, rfl, E, hb⟩; refine ⟨_, rfl, ?_⟩; obtain ⟨b2, c5, e_⟩ := Kd.vY E; subst e_; have n_ := aC (Kd.R_reads' E).2 (aC (vp (bU BK.out) hb) (aE (bs hb))); clear BK HB; obtain ⟨H50, BK, HB⟩ := n_; obtain ⟨B, D, hz2, hf0, hf1, hf2⟩ := yk BK.out) | ((with_reducible refine gf 7 rfl ?_); refine gL (some 24) rfl rfl Tryz.func7 rfl #[.agg #[.int .i64 d, .int .i64 q, .slice y r.length z]] rfl ?_; (with_reducible refine (xt.calls k d q _ _ r r2 0 _ ?side1 ?side2 A6.out).mono ?_); (case side1 => exact cU (Kd.wz s.out HB.out)); (case side2 => exact u.out); rintro e wc ⟨v_, rfl, E, hb⟩; refine ⟨_, rfl, ?_⟩; obtain ⟨b3, c7, e_⟩ := Kd.vY E; subst e_; have q_ := aE (And.intro H50.out.1 (Kd.wz H50.out.2 (by simpa using hb))); have n_ := aC (Kd.R_reads' E).2 (aC (vp (bU BK.out) hb) (aE (bs hb))); clear BK HB H50; obtain ⟨H70, BK, HB⟩ := n_; have H50 := q_; clear q_; obtain ⟨B, D, hz2, hf0, hf1, hf2⟩ := yk BK.out))
  (try simp only [Act.put, List.setIfInBounds_toArray, List.set_cons_zero, List.set_cons_succ])
  have n_ := aC (vn BK.out) (aC (vy HB.out) (aC (Kd.yr H50.out.2) (aC (Kd.yr H70.out.2) (aE (Kd.yr (Kd.wz a4.out HB.out))))))
  have H5c := aE H50.out.1
  have H7c := aE H70.out.1
  clear BK HB H50 H70
  obtain ⟨BK, HB, H5, H7, x⟩ := n_
  refine st 18 (fun w' => Below wc.drew.heap.size wc.drew w') [] (bv 18 0) wH.tab7 wH.bits7 (Below.refl _ _) (fun hE HT_ HW_ => ?_)
  generalize wc.drew = W0 at BK HB H5 H7 x hE ⊢
  refine pu 1 35 (bv 18 2) HT_ rfl rfl ?_
  refine pu 3 37 (bv 18 10) HT_ rfl rfl ?_
  refine pu 5 39 (bv 18 42) HT_ rfl rfl ?_
  refine pu 7 41 (bv 18 170) HT_ rfl rfl ?_
  refine tk 6 40 (bv 18 234) HT_ HW_ hE rfl rfl (by intro w' hb_; obtain ⟨s0, s1, s2⟩ := cz3 (vp BK.out hb_); exact yl) ?_
  refine tk 8 42 (bv 18 490) HT_ HW_ hE rfl rfl (by intro w' hb_; obtain ⟨s0, s1, s2⟩ := cz3 (vp BK.out hb_); exact yl) ?_
  refine zO (σ := Value × Value × Value × Value × Nat) 3 (bv 18 32767) (fun s_ => [(34, s_.1), (36, s_.2.1), (38, s_.2.2.1), (43, .tuple #[.agg #[.int .i64 d, .int .i64 q, s_.2.2.2.1], .int .i64 (o1.length : Int), .int .i64 0]), (9, .pointer (some ⟨s_.2.2.2.2, 0, none⟩)), (33, .tuple #[.agg #[.int .i64 d, .int .i64 q, s_.2.2.2.1], .int .i64 (o1.length : Int), .int .i64 0]), (44, .agg #[.int .i64 d, .int .i64 q, s_.2.2.2.1]), (45, .int .i64 (o1.length : Int)), (46, .int .i64 0)]) (fun s_ w' => Below W0.heap.size W0 w' ∧ Kd.R (Kd.int .u8) 5 w' W0.heap.size (fun _ => True) s_.2.2.2.1 r ∧ w'.heap[s_.2.2.2.2]? = some (.cells #[.int .i64 0, .int .i64 0, .slice none 0 0] 24 (0, 0)) ∧ W0.heap.size ≤ s_.2.2.2.2) ?_ ?_
  rotate_left
  ·intro hJ41
   refine zO (σ := Value × Value × Value × Value) 4 (bv 18 16383) (fun s_ => [(34, s_.1), (36, s_.2.1), (38, s_.2.2.1), (43, .tuple #[.agg #[.int .i64 d, .int .i64 q, s_.2.2.2], .int .i64 (o1.length : Int), .int .i64 0]), (33, .tuple #[.agg #[.int .i64 d, .int .i64 q, s_.2.2.2], .int .i64 (o1.length : Int), .int .i64 0]), (44, .agg #[.int .i64 d, .int .i64 q, s_.2.2.2]), (45, .int .i64 (o1.length : Int)), (46, .int .i64 0)]) (fun s_ w' => Below W0.heap.size W0 w' ∧ Kd.R (Kd.int .u8) 5 w' W0.heap.size (fun _ => True) s_.2.2.2 r) ?_ ?_
   rotate_left
   ·intro hJ40
    refine zO (σ := Value × Value × Value × Nat) 8 (bv 18 16895) (fun s_ => [(34, s_.1), (36, s_.2.1), (38, s_.2.2.1), (9, .pointer (some ⟨s_.2.2.2, 0, none⟩))]) (fun s_ w' => Below W0.heap.size W0 w' ∧ Kd.R (Kd.int .u8) 5 w' W0.heap.size (fun _ => True) s_.2.2.1 (r1 ++ l1) ∧ w'.heap[s_.2.2.2]? = some (.cells #[.int .i64 0, .int .i64 0, .slice none 0 0] 24 (0, 0)) ∧ W0.heap.size ≤ s_.2.2.2) ?_ ?_
    rotate_left
    ·intro hJ31
     refine zO (σ := Value × Value × Value) 9 (bv 18 511) (fun s_ => [(34, s_.1), (36, s_.2.1), (38, s_.2.2)]) (fun s_ w' => Below W0.heap.size W0 w' ∧ Kd.R (Kd.int .u8) 5 w' W0.heap.size (fun _ => True) s_.2.2 (r1 ++ l1)) ?_ ?_
     rotate_left
     ·intro hJ30
      refine zO (σ := Value × Value × Nat) 9 (bv 18 16879) (fun s_ => [(34, s_.1), (36, s_.2.1), (9, .pointer (some ⟨s_.2.2, 0, none⟩))]) (fun s_ w' => Below W0.heap.size W0 w' ∧ Kd.R (Kd.int .u8) 5 w' W0.heap.size (fun _ => True) s_.2.1 r1 ∧ w'.heap[s_.2.2]? = some (.cells #[.int .i64 0, .int .i64 0, .slice none 0 0] 24 (0, 0)) ∧ W0.heap.size ≤ s_.2.2) ?_ ?_
      rotate_left
      ·intro hJ21
       refine zO (σ := Value × Value) 10 (bv 18 495) (fun s_ => [(34, s_.1), (36, s_.2)]) (fun s_ w' => Below W0.heap.size W0 w' ∧ Kd.R (Kd.int .u8) 5 w' W0.heap.size (fun _ => True) s_.2 r1) ?_ ?_
       rotate_left
       ·intro hJ20
        refine zO (σ := Value × Nat) 10 (bv 18 16875) (fun s_ => [(34, s_.1), (9, .pointer (some ⟨s_.2, 0, none⟩))]) (fun s_ w' => Below W0.heap.size W0 w' ∧ Kd.R (Kd.int .u8) 5 w' W0.heap.size (fun _ => True) s_.1 ([] : List Int) ∧ w'.heap[s_.2]? = some (.cells #[.int .i64 0, .int .i64 0, .slice none 0 0] 24 (0, 0)) ∧ W0.heap.size ≤ s_.2) ?_ ?_
        rotate_left
        ·intro hJ11
         refine zO (σ := Value) 11 (bv 18 491) (fun s_ => [(34, s_)]) (fun s_ w' => Below W0.heap.size W0 w' ∧ Kd.R (Kd.int .u8) 5 w' W0.heap.size (fun _ => True) s_ ([] : List Int)) ?_ ?_
         rotate_left
         ·intro hJ10
          refine zO (σ := Nat) 11 (bv 18 16874) (fun s_ => [(9, .pointer (some ⟨s_, 0, none⟩))]) (fun s_ w' => Below W0.heap.size W0 w' ∧ w'.heap[s_]? = some (.cells #[.int .i64 0, .int .i64 0, .slice none 0 0] 24 (0, 0)) ∧ W0.heap.size ≤ s_) ?_ ?_
          rotate_left
          ·intro hJ01
           refine kV (i := 0) (j := 14) (Ni := some 34) (Nj := some 9) (bv 18 491) (bv 18 16874) rfl rfl rfl rfl (jg HT_.out (by kernel_rfl)) (by decide) (by decide) (fun K hK => ?_) (fun K hK => ?_)
           ·refine Kd.z9 (Kd.int .u8) _ 5 ?hg (N := 34) ?hd (xs := ([] : List Int)) (inner := []) (ok := fun _ => True) (okp := fun _ => True) ?hr ?hp (fun _ hk => hk) trivial (Below.refl _ _) (Nat.le_refl _) (by simp) ?_; (case hd => rfl); (case hg => rfl); (case hr => first | (go_simp; done) | (go_simp; rfl)); (case hp => exact (xe.none _ _))
            intro v1 w1 ho hb hg_ hnew_
            refine hK.out _ _ (xu hE hb) (fun hE1 => ?_)
            refine nm (some 34) ?_
            exact nz (hJ10 v1 _ ⟨hE1, Kd.vS ho hE.size⟩)
           ·refine zQ ?hg (N := 9) ?hd (cs := #[.int .i64 0, .int .i64 0, .slice none 0 0]) (t := 24) ?hr ?_; (case hd => rfl); (case hg => rfl); (case hr => first | (go_simp; done) | (go_simp; rfl))
            intro g hg w1 hbox hb
            refine hK.out _ _ (xu hE hb) (fun hE1 => ?_)
            refine nm (some 9) ?_
            exact nz (hJ01 g _ ⟨hE1, hbox, by rw [hg]; exact hE.size⟩)
          ·rintro g w1 ⟨hE, hA, hG⟩
           refine yQ (a' := ?_) ?_ ?_
           rotate_left
           ·simp only [yf, Act.put, List.setIfInBounds_toArray, List.set_cons_zero, List.set_cons_succ]
            rfl
           refine yA (i := 0) (N := some 34) (bv 18 16875) rfl rfl (xl HT_.out (by kernel_rfl)) (by decide) (fun K hK => ?_)
           refine Kd.z9 (Kd.int .u8) _ 5 ?hg (N := 34) ?hd (xs := ([] : List Int)) (inner := []) (ok := fun _ => True) (okp := fun _ => True) ?hr ?hp (fun _ hk => hk) trivial (Below.refl _ _) (Nat.le_refl _) (by simp) ?_; (case hd => rfl); (case hg => rfl); (case hr => first | (go_simp; done) | (go_simp; rfl)); (case hp => exact (xe.none _ _))
           intro v1 w1 ho hb hg_ hnew_
           refine hK.out _ _ (xu hE hb) (fun hE1 => ?_)
           refine nm (some 34) ?_
           exact nz (hJ11 (v1, g) _ ⟨hE1, Kd.vS ho hE.size, vp hA hb, hG⟩)
         ·rintro v1 w1 ⟨hE, hR⟩
          refine yQ (a' := ?_) ?_ ?_
          rotate_left
          ·simp only [yf, Act.put, List.setIfInBounds_toArray, List.set_cons_zero, List.set_cons_succ]
           rfl
          refine kV (i := 2) (j := 14) (Ni := some 36) (Nj := some 9) (bv 18 495) (bv 18 16875) rfl rfl rfl rfl (jg HT_.out (by kernel_rfl)) (by decide) (by decide) (fun K hK => ?_) (fun K hK => ?_)
          ·refine Kd.xJ (Kd.int .u8) (w0 := W0) W0.heap.size (by rfl) (.tmp 34) (.tmp 35) 22 5 (.int .u8 0) 1 rfl Tryz.underlying22 info5 rfl (by decide) (by omega) v1 ([] : List Int) r1 _ _ _ (fun _ => True) (fun _ => False) rfl rfl hR (Kd.wz H5.out hE) (fun _ _ h => h) (fun _ h => h.elim) (fun _ _ => trivial) hE hE.size ?aL ?_
           (case aL => (try simp only [List.length_nil]); have := O.out; have := G.out; omega)
           intro v2 w1 ho hb hg hat
           refine hK.out _ _ hb (fun hE1 => ?_)
           refine nm (some 36) ?_
           exact nz (hJ20 (v1, v2) _ ⟨hE1, ho⟩)
          ·refine zQ ?hg (N := 9) ?hd (cs := #[.int .i64 0, .int .i64 0, .slice none 0 0]) (t := 24) ?hr ?_; (case hd => rfl); (case hg => rfl); (case hr => first | (go_simp; done) | (go_simp; rfl))
           intro g hg w1 hbox hb
           refine hK.out _ _ (xu hE hb) (fun hE1 => ?_)
           refine nm (some 9) ?_
           exact nz (hJ11 (v1, g) _ ⟨hE1, Kd.wg hR hb, hbox, by rw [hg]; exact hE.size⟩)
        ·rintro ⟨v1, g⟩ w1 ⟨hE, hR, hA, hG⟩
         refine yQ (a' := ?_) ?_ ?_
         rotate_left
         ·simp only [yf, Act.put, List.setIfInBounds_toArray, List.set_cons_zero, List.set_cons_succ]
          rfl
         refine yA (i := 2) (N := some 36) (bv 18 16879) rfl rfl (xl HT_.out (by kernel_rfl)) (by decide) (fun K hK => ?_)
         refine Kd.xJ (Kd.int .u8) (w0 := W0) W0.heap.size (by rfl) (.tmp 34) (.tmp 35) 22 5 (.int .u8 0) 1 rfl Tryz.underlying22 info5 rfl (by decide) (by omega) v1 ([] : List Int) r1 _ _ _ (fun _ => True) (fun _ => False) rfl rfl hR (Kd.wz H5.out hE) (fun _ _ h => h) (fun _ h => h.elim) (fun _ _ => trivial) hE hE.size ?aL ?_
         (case aL => (try simp only [List.length_nil]); have := O.out; have := G.out; omega)
         intro v2 w1 ho hb hg hat
         refine hK.out _ _ hb (fun hE1 => ?_)
         refine nm (some 36) ?_
         exact nz (hJ21 (v1, v2, g) _ ⟨hE1, ho, xz hA hg (Kd.ja hR hA (by decide)), hG⟩)
       ·rintro ⟨v1, v2⟩ w1 ⟨hE, hR⟩
        refine yQ (a' := ?_) ?_ ?_
        rotate_left
        ·simp only [yf, Act.put, List.setIfInBounds_toArray, List.set_cons_zero, List.set_cons_succ]
         rfl
        refine kV (i := 4) (j := 14) (Ni := some 38) (Nj := some 9) (bv 18 511) (bv 18 16879) rfl rfl rfl rfl (jg HT_.out (by kernel_rfl)) (by decide) (by decide) (fun K hK => ?_) (fun K hK => ?_)
        ·refine Kd.xJ (Kd.int .u8) (w0 := W0) W0.heap.size (by rfl) (.tmp 36) (.tmp 37) 22 5 (.int .u8 0) 1 rfl Tryz.underlying22 info5 rfl (by decide) (by omega) v2 r1 l1 _ _ _ (fun _ => True) (fun _ => False) rfl rfl hR (Kd.wz x.out hE) (fun _ _ h => h) (fun _ h => h.elim) (fun _ _ => trivial) hE hE.size ?aL ?_
         (case aL => (try simp only [List.length_nil]); have := O.out; have := G.out; omega)
         intro v3 w1 ho hb hg hat
         refine hK.out _ _ hb (fun hE1 => ?_)
         refine nm (some 38) ?_
         exact nz (hJ30 (v1, v2, v3) _ ⟨hE1, ho⟩)
        ·refine zQ ?hg (N := 9) ?hd (cs := #[.int .i64 0, .int .i64 0, .slice none 0 0]) (t := 24) ?hr ?_; (case hd => rfl); (case hg => rfl); (case hr => first | (go_simp; done) | (go_simp; rfl))
         intro g hg w1 hbox hb
         refine hK.out _ _ (xu hE hb) (fun hE1 => ?_)
         refine nm (some 9) ?_
         exact nz (hJ21 (v1, v2, g) _ ⟨hE1, Kd.wg hR hb, hbox, by rw [hg]; exact hE.size⟩)
      ·rintro ⟨v1, v2, g⟩ w1 ⟨hE, hR, hA, hG⟩
       refine yQ (a' := ?_) ?_ ?_
       rotate_left
       ·simp only [yf, Act.put, List.setIfInBounds_toArray, List.set_cons_zero, List.set_cons_succ]
        rfl
       refine yA (i := 4) (N := some 38) (bv 18 16895) rfl rfl (xl HT_.out (by kernel_rfl)) (by decide) (fun K hK => ?_)
       refine Kd.xJ (Kd.int .u8) (w0 := W0) W0.heap.size (by rfl) (.tmp 36) (.tmp 37) 22 5 (.int .u8 0) 1 rfl Tryz.underlying22 info5 rfl (by decide) (by omega) v2 r1 l1 _ _ _ (fun _ => True) (fun _ => False) rfl rfl hR (Kd.wz x.out hE) (fun _ _ h => h) (fun _ h => h.elim) (fun _ _ => trivial) hE hE.size ?aL ?_
       (case aL => (try simp only [List.length_nil]); have := O.out; have := G.out; omega)
       intro v3 w1 ho hb hg hat
       refine hK.out _ _ hb (fun hE1 => ?_)
       refine nm (some 38) ?_
       exact nz (hJ31 (v1, v2, v3, g) _ ⟨hE1, ho, xz hA hg (Kd.ja hR hA (by decide)), hG⟩)
     ·rintro ⟨v1, v2, v3⟩ w1 ⟨hE, hR⟩
      refine yQ (a' := ?_) ?_ ?_
      rotate_left
      ·simp only [yf, Act.put, List.setIfInBounds_toArray, List.set_cons_zero, List.set_cons_succ]
       rfl
      refine kV (i := 9) (j := 14) (Ni := some 43) (Nj := some 9) (bv 18 1023) (bv 18 16895) rfl rfl rfl rfl (jg HT_.out (by kernel_rfl)) (by decide) (by decide) (fun K hK => ?_) (fun K hK => ?_)
      ·obtain ⟨Ar, cr, er⟩ := Kd.vY hR
       subst er
       refine gK Tryz.func8 rfl #[.slice Ar (r1 ++ l1).length cr, .int .i64 d, .int .i64 q] rfl rfl ?_
       with_reducible refine (zf.calls k _ _ (r1 ++ l1) d q d q r (o1.length : Int) 0 _ ?side1 ?side2 J.out).mono ?_
       (case side1 => exact (Kd.R_reads' hR).2.2)
       (case side2 => exact (Kd.R_reads' hR).2.1)
       rintro e w1 ⟨v4, rfl, ho, hb⟩
       refine ⟨_, rfl, ?_⟩
       refine hK.out _ _ (xu hE hb) (fun hE1 => ?_)
       refine nm (some 43) ?_
       refine pu 10 33 (bv 18 2047) HT_ rfl rfl ?_
       refine pu 11 44 (bv 18 4095) HT_ rfl rfl ?_
       refine pu 12 45 (bv 18 8191) HT_ rfl rfl ?_
       refine pu 13 46 (bv 18 16383) HT_ rfl rfl ?_
       exact nz (hJ40 (v1, v2, .slice Ar (r1 ++ l1).length cr, v4) _ ⟨hE1, Kd.vS ho hE.size⟩)
      ·refine zQ ?hg (N := 9) ?hd (cs := #[.int .i64 0, .int .i64 0, .slice none 0 0]) (t := 24) ?hr ?_; (case hd => rfl); (case hg => rfl); (case hr => first | (go_simp; done) | (go_simp; rfl))
       intro g hg w1 hbox hb
       refine hK.out _ _ (xu hE hb) (fun hE1 => ?_)
       refine nm (some 9) ?_
       exact nz (hJ31 (v1, v2, v3, g) _ ⟨hE1, Kd.wg hR hb, hbox, by rw [hg]; exact hE.size⟩)
    ·rintro ⟨v1, v2, v3, g⟩ w1 ⟨hE, hR, hA, hG⟩
     refine yQ (a' := ?_) ?_ ?_
     rotate_left
     ·simp only [yf, Act.put, List.setIfInBounds_toArray, List.set_cons_zero, List.set_cons_succ]
      rfl
     refine yA (i := 9) (N := some 43) (bv 18 17407) rfl rfl (xl HT_.out (by kernel_rfl)) (by decide) (fun K hK => ?_)
     obtain ⟨Ar, cr, er⟩ := Kd.vY hR
     subst er
     refine gK Tryz.func8 rfl #[.slice Ar (r1 ++ l1).length cr, .int .i64 d, .int .i64 q] rfl rfl ?_
     with_reducible refine (zf.calls k _ _ (r1 ++ l1) d q d q r (o1.length : Int) 0 _ ?side1 ?side2 J.out).mono ?_
     (case side1 => exact (Kd.R_reads' hR).2.2)
     (case side2 => exact (Kd.R_reads' hR).2.1)
     rintro e w1 ⟨v4, rfl, ho, hb⟩
     refine ⟨_, rfl, ?_⟩
     refine hK.out _ _ (xu hE hb) (fun hE1 => ?_)
     refine nm (some 43) ?_
     refine pu 10 33 (bv 18 18431) HT_ rfl rfl ?_
     refine pu 11 44 (bv 18 20479) HT_ rfl rfl ?_
     refine pu 12 45 (bv 18 24575) HT_ rfl rfl ?_
     refine pu 13 46 (bv 18 32767) HT_ rfl rfl ?_
     exact nz (hJ41 (v1, v2, .slice Ar (r1 ++ l1).length cr, v4, g) _ ⟨hE1, Kd.vS ho hE.size, vp hA hb, hG⟩)
   ·rintro ⟨v1, v2, v3, v4⟩ w1 ⟨hE, hR⟩
    refine yQ (a' := ?_) ?_ ?_
    rotate_left
    ·simp only [yf, Act.put, List.setIfInBounds_toArray, List.set_cons_zero, List.set_cons_succ]
     rfl
    refine yA (i := 14) (N := some 9) (bv 18 32767) rfl rfl (xl HT_.out (by kernel_rfl)) (by decide) (fun K hK => ?_)
    refine zQ ?hg (N := 9) ?hd (cs := #[.int .i64 0, .int .i64 0, .slice none 0 0]) (t := 24) ?hr ?_; (case hd => rfl); (case hg => rfl); (case hr => first | (go_simp; done) | (go_simp; rfl))
    intro g hg w1 hbox hb
    refine hK.out _ _ (xu hE hb) (fun hE1 => ?_)
    refine nm (some 9) ?_
    exact nz (hJ41 (v1, v2, v3, v4, g) _ ⟨hE1, Kd.wg hR hb, hbox, by rw [hg]; exact hE.size⟩)
  rintro ⟨v1, v2, v3, v4, g⟩ w1 ⟨hE, hR, hA, hG⟩
  obtain ⟨A4, c4, e4⟩ := Kd.vY hR
  subst e4
  refine yQ (a' := ?_) ?_ ?_
  rotate_left
  ·simp only [yf, Act.put, List.setIfInBounds_toArray, List.set_cons_zero, List.set_cons_succ]
   rfl
  refine yA (i := 15) (N := none) (bv 18 65535) rfl rfl (xl HT_.out (by kernel_rfl)) (by decide) (fun K hK => ?_)
  obtain ⟨z0, z1, z2, y0, y1, y2⟩ := yk hA
  refine skip_ (w1 := ?_) (by rfl) rfl ?_ ?_
  rotate_left
  ·go_simp
   rfl
  refine hK.out _ _ (((hE.setCell (p := ⟨g, 0, none⟩) hG _).setCell (p := ⟨g, 1, none⟩) hG _).setCell (p := ⟨g, 2, none⟩) hG _) (fun hE1 => ?_)
  have hX := vt (cs' := #[.int .i64 d, .int .i64 q, .slice A4 r.length c4]) (vt (cs' := #[.int .i64 d, .int .i64 q, .slice none 0 0]) (vt (cs' := #[.int .i64 d, .int .i64 0, .slice none 0 0]) hA 0 (.int .i64 d) rfl) 1 (.int .i64 q) rfl) 2 (.slice A4 r.length c4) rfl
  have hXR := Kd.R_reads' (Kd.wK (p := ⟨g, 2, none⟩) (Kd.wK (p := ⟨g, 1, none⟩) (Kd.wK (p := ⟨g, 0, none⟩) (Kd.xH hR hA (by decide)) (fun _ hk => hk.2) (.int .i64 d)) (fun _ hk => hk.2) (.int .i64 q)) (fun _ hk => hk.2) (.slice A4 r.length c4))
  generalize (((w1.setCell ⟨g, 0, none⟩ (.int .i64 d)).setCell ⟨g, 1, none⟩ (.int .i64 q)).setCell ⟨g, 2, none⟩ (.slice A4 r.length c4)) = w2 at hE1 hX hXR ⊢
  refine pu 16 10 (bv 18 131071) HT_ rfl rfl ?_
  refine pu 17 6 (bv 18 262143) HT_ rfl rfl ?_
  refine zd (xZ HT_.out (by kernel_rfl)) ?_
  have n_ := aC (vn (vp BK.out hE1)) (aC (vy (xu HB.out hE1)) (aC (Kd.yr (Kd.wz H7.out hE1)) (aC (Kd.yr (Kd.wz x.out hE1)) (aC (vn hX) (aC (Kd.yr hXR.2.2) (aE hXR.2.1))))))
  clear BK HB H5 H7 x hX hXR hE1 hE hR hA hG HT_ HW_
  obtain ⟨BK, HB, H7, x, HX, HXR, HXC⟩ := n_
  (try go_wp2)
  refine st 18 (fun w' => Below w2.drew.heap.size w2.drew w') [] (bv 18 0) wH.tab8 wH.bits8 (Below.refl _ _) (fun hE HT_ HW_ => ?_)
  generalize w2.drew = W0 at BK HB H7 x HX HXR hE ⊢
  refine pu 1 49 (bv 18 2) HT_ rfl rfl ?_
  refine pu 3 51 (bv 18 10) HT_ rfl rfl ?_
  refine pu 5 53 (bv 18 42) HT_ rfl rfl ?_
  refine pu 7 55 (bv 18 170) HT_ rfl rfl ?_
  refine tk 6 54 (bv 18 234) HT_ HW_ hE rfl rfl (by intro w' hb_; obtain ⟨s0, s1, s2⟩ := cz3 (vp BK.out hb_); exact yl) ?_
  refine tk 8 56 (bv 18 490) HT_ HW_ hE rfl rfl (by intro w' hb_; obtain ⟨s0, s1, s2⟩ := cz3 (vp BK.out hb_); exact yl) ?_
  refine zO (σ := Value × Value × Value × Value × Nat) 3 (bv 18 32767) (fun s_ => [(48, s_.1), (50, s_.2.1), (52, s_.2.2.1), (57, .tuple #[.agg #[.int .i64 d, .int .i64 q, s_.2.2.2.1], .int .i64 (o2.length : Int), .int .i64 0]), (11, .pointer (some ⟨s_.2.2.2.2, 0, none⟩)), (47, .tuple #[.agg #[.int .i64 d, .int .i64 q, s_.2.2.2.1], .int .i64 (o2.length : Int), .int .i64 0]), (58, .agg #[.int .i64 d, .int .i64 q, s_.2.2.2.1]), (59, .int .i64 (o2.length : Int)), (60, .int .i64 0)]) (fun s_ w' => Below W0.heap.size W0 w' ∧ Kd.R (Kd.int .u8) 5 w' W0.heap.size (fun _ => True) s_.2.2.2.1 r ∧ w'.heap[s_.2.2.2.2]? = some (.cells #[.int .i64 0, .int .i64 0, .slice none 0 0] 24 (0, 0)) ∧ W0.heap.size ≤ s_.2.2.2.2) ?_ ?_
  rotate_left
  ·intro hJ41
   refine zO (σ := Value × Value × Value × Value) 4 (bv 18 16383) (fun s_ => [(48, s_.1), (50, s_.2.1), (52, s_.2.2.1), (57, .tuple #[.agg #[.int .i64 d, .int .i64 q, s_.2.2.2], .int .i64 (o2.length : Int), .int .i64 0]), (47, .tuple #[.agg #[.int .i64 d, .int .i64 q, s_.2.2.2], .int .i64 (o2.length : Int), .int .i64 0]), (58, .agg #[.int .i64 d, .int .i64 q, s_.2.2.2]), (59, .int .i64 (o2.length : Int)), (60, .int .i64 0)]) (fun s_ w' => Below W0.heap.size W0 w' ∧ Kd.R (Kd.int .u8) 5 w' W0.heap.size (fun _ => True) s_.2.2.2 r) ?_ ?_
   rotate_left
   ·intro hJ40
    refine zO (σ := Value × Value × Value × Nat) 8 (bv 18 16895) (fun s_ => [(48, s_.1), (50, s_.2.1), (52, s_.2.2.1), (11, .pointer (some ⟨s_.2.2.2, 0, none⟩))]) (fun s_ w' => Below W0.heap.size W0 w' ∧ Kd.R (Kd.int .u8) 5 w' W0.heap.size (fun _ => True) s_.2.2.1 (r2 ++ l1) ∧ w'.heap[s_.2.2.2]? = some (.cells #[.int .i64 0, .int .i64 0, .slice none 0 0] 24 (0, 0)) ∧ W0.heap.size ≤ s_.2.2.2) ?_ ?_
    rotate_left
    ·intro hJ31
     refine zO (σ := Value × Value × Value) 9 (bv 18 511) (fun s_ => [(48, s_.1), (50, s_.2.1), (52, s_.2.2)]) (fun s_ w' => Below W0.heap.size W0 w' ∧ Kd.R (Kd.int .u8) 5 w' W0.heap.size (fun _ => True) s_.2.2 (r2 ++ l1)) ?_ ?_
     rotate_left
     ·intro hJ30
      refine zO (σ := Value × Value × Nat) 9 (bv 18 16879) (fun s_ => [(48, s_.1), (50, s_.2.1), (11, .pointer (some ⟨s_.2.2, 0, none⟩))]) (fun s_ w' => Below W0.heap.size W0 w' ∧ Kd.R (Kd.int .u8) 5 w' W0.heap.size (fun _ => True) s_.2.1 r2 ∧ w'.heap[s_.2.2]? = some (.cells #[.int .i64 0, .int .i64 0, .slice none 0 0] 24 (0, 0)) ∧ W0.heap.size ≤ s_.2.2) ?_ ?_
      rotate_left
      ·intro hJ21
       refine zO (σ := Value × Value) 10 (bv 18 495) (fun s_ => [(48, s_.1), (50, s_.2)]) (fun s_ w' => Below W0.heap.size W0 w' ∧ Kd.R (Kd.int .u8) 5 w' W0.heap.size (fun _ => True) s_.2 r2) ?_ ?_
       rotate_left
       ·intro hJ20
        refine zO (σ := Value × Nat) 10 (bv 18 16875) (fun s_ => [(48, s_.1), (11, .pointer (some ⟨s_.2, 0, none⟩))]) (fun s_ w' => Below W0.heap.size W0 w' ∧ Kd.R (Kd.int .u8) 5 w' W0.heap.size (fun _ => True) s_.1 ([] : List Int) ∧ w'.heap[s_.2]? = some (.cells #[.int .i64 0, .int .i64 0, .slice none 0 0] 24 (0, 0)) ∧ W0.heap.size ≤ s_.2) ?_ ?_
        rotate_left
        ·intro hJ11
         refine zO (σ := Value) 11 (bv 18 491) (fun s_ => [(48, s_)]) (fun s_ w' => Below W0.heap.size W0 w' ∧ Kd.R (Kd.int .u8) 5 w' W0.heap.size (fun _ => True) s_ ([] : List Int)) ?_ ?_
         rotate_left
         ·intro hJ10
          refine zO (σ := Nat) 11 (bv 18 16874) (fun s_ => [(11, .pointer (some ⟨s_, 0, none⟩))]) (fun s_ w' => Below W0.heap.size W0 w' ∧ w'.heap[s_]? = some (.cells #[.int .i64 0, .int .i64 0, .slice none 0 0] 24 (0, 0)) ∧ W0.heap.size ≤ s_) ?_ ?_
          rotate_left
          ·intro hJ01
           refine kV (i := 0) (j := 14) (Ni := some 48) (Nj := some 11) (bv 18 491) (bv 18 16874) rfl rfl rfl rfl (jg HT_.out (by kernel_rfl)) (by decide) (by decide) (fun K hK => ?_) (fun K hK => ?_)
           ·refine Kd.z9 (Kd.int .u8) _ 5 ?hg (N := 48) ?hd (xs := ([] : List Int)) (inner := []) (ok := fun _ => True) (okp := fun _ => True) ?hr ?hp (fun _ hk => hk) trivial (Below.refl _ _) (Nat.le_refl _) (by simp) ?_; (case hd => rfl); (case hg => rfl); (case hr => first | (go_simp; done) | (go_simp; rfl)); (case hp => exact (xe.none _ _))
            intro v1 w1 ho hb hg_ hnew_
            refine hK.out _ _ (xu hE hb) (fun hE1 => ?_)
            refine nm (some 48) ?_
            exact nz (hJ10 v1 _ ⟨hE1, Kd.vS ho hE.size⟩)
           ·refine zQ ?hg (N := 11) ?hd (cs := #[.int .i64 0, .int .i64 0, .slice none 0 0]) (t := 24) ?hr ?_; (case hd => rfl); (case hg => rfl); (case hr => first | (go_simp; done) | (go_simp; rfl))
            intro gy hg w1 hbox hb
            refine hK.out _ _ (xu hE hb) (fun hE1 => ?_)
            refine nm (some 11) ?_
            exact nz (hJ01 gy _ ⟨hE1, hbox, by rw [hg]; exact hE.size⟩)
          ·rintro gy w1 ⟨hE, hA, hG⟩
           refine yQ (a' := ?_) ?_ ?_
           rotate_left
           ·simp only [yf, Act.put, List.setIfInBounds_toArray, List.set_cons_zero, List.set_cons_succ]
            rfl
           refine yA (i := 0) (N := some 48) (bv 18 16875) rfl rfl (xl HT_.out (by kernel_rfl)) (by decide) (fun K hK => ?_)
           refine Kd.z9 (Kd.int .u8) _ 5 ?hg (N := 48) ?hd (xs := ([] : List Int)) (inner := []) (ok := fun _ => True) (okp := fun _ => True) ?hr ?hp (fun _ hk => hk) trivial (Below.refl _ _) (Nat.le_refl _) (by simp) ?_; (case hd => rfl); (case hg => rfl); (case hr => first | (go_simp; done) | (go_simp; rfl)); (case hp => exact (xe.none _ _))
           intro v1 w1 ho hb hg_ hnew_
           refine hK.out _ _ (xu hE hb) (fun hE1 => ?_)
           refine nm (some 48) ?_
           exact nz (hJ11 (v1, gy) _ ⟨hE1, Kd.vS ho hE.size, vp hA hb, hG⟩)
         ·rintro v1 w1 ⟨hE, hR⟩
          refine yQ (a' := ?_) ?_ ?_
          rotate_left
          ·simp only [yf, Act.put, List.setIfInBounds_toArray, List.set_cons_zero, List.set_cons_succ]
           rfl
          refine kV (i := 2) (j := 14) (Ni := some 50) (Nj := some 11) (bv 18 495) (bv 18 16875) rfl rfl rfl rfl (jg HT_.out (by kernel_rfl)) (by decide) (by decide) (fun K hK => ?_) (fun K hK => ?_)
          ·refine Kd.xJ (Kd.int .u8) (w0 := W0) W0.heap.size (by rfl) (.tmp 48) (.tmp 49) 22 5 (.int .u8 0) 1 rfl Tryz.underlying22 info5 rfl (by decide) (by omega) v1 ([] : List Int) r2 _ _ _ (fun _ => True) (fun _ => False) rfl rfl hR (Kd.wz H7.out hE) (fun _ _ h => h) (fun _ h => h.elim) (fun _ _ => trivial) hE hE.size ?aL ?_
           (case aL => (try simp only [List.length_nil]); have := T.out; have := G.out; omega)
           intro v2 w1 ho hb hg hat
           refine hK.out _ _ hb (fun hE1 => ?_)
           refine nm (some 50) ?_
           exact nz (hJ20 (v1, v2) _ ⟨hE1, ho⟩)
          ·refine zQ ?hg (N := 11) ?hd (cs := #[.int .i64 0, .int .i64 0, .slice none 0 0]) (t := 24) ?hr ?_; (case hd => rfl); (case hg => rfl); (case hr => first | (go_simp; done) | (go_simp; rfl))
           intro gy hg w1 hbox hb
           refine hK.out _ _ (xu hE hb) (fun hE1 => ?_)
           refine nm (some 11) ?_
           exact nz (hJ11 (v1, gy) _ ⟨hE1, Kd.wg hR hb, hbox, by rw [hg]; exact hE.size⟩)
        ·rintro ⟨v1, gy⟩ w1 ⟨hE, hR, hA, hG⟩
         refine yQ (a' := ?_) ?_ ?_
         rotate_left
         ·simp only [yf, Act.put, List.setIfInBounds_toArray, List.set_cons_zero, List.set_cons_succ]
          rfl
         refine yA (i := 2) (N := some 50) (bv 18 16879) rfl rfl (xl HT_.out (by kernel_rfl)) (by decide) (fun K hK => ?_)
         refine Kd.xJ (Kd.int .u8) (w0 := W0) W0.heap.size (by rfl) (.tmp 48) (.tmp 49) 22 5 (.int .u8 0) 1 rfl Tryz.underlying22 info5 rfl (by decide) (by omega) v1 ([] : List Int) r2 _ _ _ (fun _ => True) (fun _ => False) rfl rfl hR (Kd.wz H7.out hE) (fun _ _ h => h) (fun _ h => h.elim) (fun _ _ => trivial) hE hE.size ?aL ?_
         (case aL => (try simp only [List.length_nil]); have := T.out; have := G.out; omega)
         intro v2 w1 ho hb hg hat
         refine hK.out _ _ hb (fun hE1 => ?_)
         refine nm (some 50) ?_
         exact nz (hJ21 (v1, v2, gy) _ ⟨hE1, ho, xz hA hg (Kd.ja hR hA (by decide)), hG⟩)
       ·rintro ⟨v1, v2⟩ w1 ⟨hE, hR⟩
        refine yQ (a' := ?_) ?_ ?_
        rotate_left
        ·simp only [yf, Act.put, List.setIfInBounds_toArray, List.set_cons_zero, List.set_cons_succ]
         rfl
        refine kV (i := 4) (j := 14) (Ni := some 52) (Nj := some 11) (bv 18 511) (bv 18 16879) rfl rfl rfl rfl (jg HT_.out (by kernel_rfl)) (by decide) (by decide) (fun K hK => ?_) (fun K hK => ?_)
        ·refine Kd.xJ (Kd.int .u8) (w0 := W0) W0.heap.size (by rfl) (.tmp 50) (.tmp 51) 22 5 (.int .u8 0) 1 rfl Tryz.underlying22 info5 rfl (by decide) (by omega) v2 r2 l1 _ _ _ (fun _ => True) (fun _ => False) rfl rfl hR (Kd.wz x.out hE) (fun _ _ h => h) (fun _ h => h.elim) (fun _ _ => trivial) hE hE.size ?aL ?_
         (case aL => (try simp only [List.length_nil]); have := T.out; have := G.out; omega)
         intro v3 w1 ho hb hg hat
         refine hK.out _ _ hb (fun hE1 => ?_)
         refine nm (some 52) ?_
         exact nz (hJ30 (v1, v2, v3) _ ⟨hE1, ho⟩)
        ·refine zQ ?hg (N := 11) ?hd (cs := #[.int .i64 0, .int .i64 0, .slice none 0 0]) (t := 24) ?hr ?_; (case hd => rfl); (case hg => rfl); (case hr => first | (go_simp; done) | (go_simp; rfl))
         intro gy hg w1 hbox hb
         refine hK.out _ _ (xu hE hb) (fun hE1 => ?_)
         refine nm (some 11) ?_
         exact nz (hJ21 (v1, v2, gy) _ ⟨hE1, Kd.wg hR hb, hbox, by rw [hg]; exact hE.size⟩)
      ·rintro ⟨v1, v2, gy⟩ w1 ⟨hE, hR, hA, hG⟩
       refine yQ (a' := ?_) ?_ ?_
       rotate_left
       ·simp only [yf, Act.put, List.setIfInBounds_toArray, List.set_cons_zero, List.set_cons_succ]
        rfl
       refine yA (i := 4) (N := some 52) (bv 18 16895) rfl rfl (xl HT_.out (by kernel_rfl)) (by decide) (fun K hK => ?_)
       refine Kd.xJ (Kd.int .u8) (w0 := W0) W0.heap.size (by rfl) (.tmp 50) (.tmp 51) 22 5 (.int .u8 0) 1 rfl Tryz.underlying22 info5 rfl (by decide) (by omega) v2 r2 l1 _ _ _ (fun _ => True) (fun _ => False) rfl rfl hR (Kd.wz x.out hE) (fun _ _ h => h) (fun _ h => h.elim) (fun _ _ => trivial) hE hE.size ?aL ?_
       (case aL => (try simp only [List.length_nil]); have := T.out; have := G.out; omega)
       intro v3 w1 ho hb hg hat
       refine hK.out _ _ hb (fun hE1 => ?_)
       refine nm (some 52) ?_
       exact nz (hJ31 (v1, v2, v3, gy) _ ⟨hE1, ho, xz hA hg (Kd.ja hR hA (by decide)), hG⟩)
     ·rintro ⟨v1, v2, v3⟩ w1 ⟨hE, hR⟩
      refine yQ (a' := ?_) ?_ ?_
      rotate_left
      ·simp only [yf, Act.put, List.setIfInBounds_toArray, List.set_cons_zero, List.set_cons_succ]
       rfl
      refine kV (i := 9) (j := 14) (Ni := some 57) (Nj := some 11) (bv 18 1023) (bv 18 16895) rfl rfl rfl rfl (jg HT_.out (by kernel_rfl)) (by decide) (by decide) (fun K hK => ?_) (fun K hK => ?_)
      ·obtain ⟨Ar, cr, er⟩ := Kd.vY hR
       subst er
       refine gK Tryz.func9 rfl #[.slice Ar (r2 ++ l1).length cr, .int .i64 d, .int .i64 q] rfl rfl ?_
       with_reducible refine (ze.calls k _ _ (r2 ++ l1) d q d q r (o2.length : Int) 0 _ ?side1 ?side2 L.out).mono ?_
       (case side1 => exact (Kd.R_reads' hR).2.2)
       (case side2 => exact (Kd.R_reads' hR).2.1)
       rintro e w1 ⟨v4, rfl, ho, hb⟩
       refine ⟨_, rfl, ?_⟩
       refine hK.out _ _ (xu hE hb) (fun hE1 => ?_)
       refine nm (some 57) ?_
       refine pu 10 47 (bv 18 2047) HT_ rfl rfl ?_
       refine pu 11 58 (bv 18 4095) HT_ rfl rfl ?_
       refine pu 12 59 (bv 18 8191) HT_ rfl rfl ?_
       refine pu 13 60 (bv 18 16383) HT_ rfl rfl ?_
       exact nz (hJ40 (v1, v2, .slice Ar (r2 ++ l1).length cr, v4) _ ⟨hE1, Kd.vS ho hE.size⟩)
      ·refine zQ ?hg (N := 11) ?hd (cs := #[.int .i64 0, .int .i64 0, .slice none 0 0]) (t := 24) ?hr ?_; (case hd => rfl); (case hg => rfl); (case hr => first | (go_simp; done) | (go_simp; rfl))
       intro gy hg w1 hbox hb
       refine hK.out _ _ (xu hE hb) (fun hE1 => ?_)
       refine nm (some 11) ?_
       exact nz (hJ31 (v1, v2, v3, gy) _ ⟨hE1, Kd.wg hR hb, hbox, by rw [hg]; exact hE.size⟩)
    ·rintro ⟨v1, v2, v3, gy⟩ w1 ⟨hE, hR, hA, hG⟩
     refine yQ (a' := ?_) ?_ ?_
     rotate_left
     ·simp only [yf, Act.put, List.setIfInBounds_toArray, List.set_cons_zero, List.set_cons_succ]
      rfl
     refine yA (i := 9) (N := some 57) (bv 18 17407) rfl rfl (xl HT_.out (by kernel_rfl)) (by decide) (fun K hK => ?_)
     obtain ⟨Ar, cr, er⟩ := Kd.vY hR
     subst er
     refine gK Tryz.func9 rfl #[.slice Ar (r2 ++ l1).length cr, .int .i64 d, .int .i64 q] rfl rfl ?_
     with_reducible refine (ze.calls k _ _ (r2 ++ l1) d q d q r (o2.length : Int) 0 _ ?side1 ?side2 L.out).mono ?_
     (case side1 => exact (Kd.R_reads' hR).2.2)
     (case side2 => exact (Kd.R_reads' hR).2.1)
     rintro e w1 ⟨v4, rfl, ho, hb⟩
     refine ⟨_, rfl, ?_⟩
     refine hK.out _ _ (xu hE hb) (fun hE1 => ?_)
     refine nm (some 57) ?_
     refine pu 10 47 (bv 18 18431) HT_ rfl rfl ?_
     refine pu 11 58 (bv 18 20479) HT_ rfl rfl ?_
     refine pu 12 59 (bv 18 24575) HT_ rfl rfl ?_
     refine pu 13 60 (bv 18 32767) HT_ rfl rfl ?_
     exact nz (hJ41 (v1, v2, .slice Ar (r2 ++ l1).length cr, v4, gy) _ ⟨hE1, Kd.vS ho hE.size, vp hA hb, hG⟩)
   ·rintro ⟨v1, v2, v3, v4⟩ w1 ⟨hE, hR⟩
    refine yQ (a' := ?_) ?_ ?_
    rotate_left
    ·simp only [yf, Act.put, List.setIfInBounds_toArray, List.set_cons_zero, List.set_cons_succ]
     rfl
    refine yA (i := 14) (N := some 11) (bv 18 32767) rfl rfl (xl HT_.out (by kernel_rfl)) (by decide) (fun K hK => ?_)
    refine zQ ?hg (N := 11) ?hd (cs := #[.int .i64 0, .int .i64 0, .slice none 0 0]) (t := 24) ?hr ?_; (case hd => rfl); (case hg => rfl); (case hr => first | (go_simp; done) | (go_simp; rfl))
    intro gy hg w1 hbox hb
    refine hK.out _ _ (xu hE hb) (fun hE1 => ?_)
    refine nm (some 11) ?_
    exact nz (hJ41 (v1, v2, v3, v4, gy) _ ⟨hE1, Kd.wg hR hb, hbox, by rw [hg]; exact hE.size⟩)
  rintro ⟨v1, v2, v3, v4, gy⟩ w1 ⟨hE, hR, hA, hG⟩
  obtain ⟨A8, c8, e4⟩ := Kd.vY hR
  subst e4
  refine yQ (a' := ?_) ?_ ?_
  rotate_left
  ·simp only [yf, Act.put, List.setIfInBounds_toArray, List.set_cons_zero, List.set_cons_succ]
   rfl
  refine yA (i := 15) (N := none) (bv 18 65535) rfl rfl (xl HT_.out (by kernel_rfl)) (by decide) (fun K hK => ?_)
  obtain ⟨z0, z1, z2, y0, y1, y2⟩ := yk hA
  refine skip_ (w1 := ?_) (by rfl) rfl ?_ ?_
  rotate_left
  ·go_simp
   rfl
  refine hK.out _ _ (((hE.setCell (p := ⟨gy, 0, none⟩) hG _).setCell (p := ⟨gy, 1, none⟩) hG _).setCell (p := ⟨gy, 2, none⟩) hG _) (fun hE1 => ?_)
  have hX := vt (cs' := #[.int .i64 d, .int .i64 q, .slice A8 r.length c8]) (vt (cs' := #[.int .i64 d, .int .i64 q, .slice none 0 0]) (vt (cs' := #[.int .i64 d, .int .i64 0, .slice none 0 0]) hA 0 (.int .i64 d) rfl) 1 (.int .i64 q) rfl) 2 (.slice A8 r.length c8) rfl
  have hXR := Kd.R_reads' (Kd.wK (p := ⟨gy, 2, none⟩) (Kd.wK (p := ⟨gy, 1, none⟩) (Kd.wK (p := ⟨gy, 0, none⟩) (Kd.xH hR hA (by decide)) (fun _ hk => hk.2) (.int .i64 d)) (fun _ hk => hk.2) (.int .i64 q)) (fun _ hk => hk.2) (.slice A8 r.length c8))
  generalize (((w1.setCell ⟨gy, 0, none⟩ (.int .i64 d)).setCell ⟨gy, 1, none⟩ (.int .i64 q)).setCell ⟨gy, 2, none⟩ (.slice A8 r.length c8)) = w2 at hE1 hX hXR ⊢
  refine pu 16 12 (bv 18 131071) HT_ rfl rfl ?_
  refine pu 17 8 (bv 18 262143) HT_ rfl rfl ?_
  refine zd (xZ HT_.out (by kernel_rfl)) ?_
  have n_ := aC (vp BK.out hE1) (aC (xu HB.out hE1) (aC (vp HX.out hE1) (aC (Kd.wz HXR.out hE1) (aC hX (aC hXR.2.2 (aE hXR.2.1))))))
  clear BK HB H7 x HX HXR hX hXR hE1 hE hR hA hG HT_ HW_
  obtain ⟨BK, HB, HX, HXR, HY, HYR, HYC⟩ := n_
  obtain ⟨B, D, hz2, hf0, hf1, hf2⟩ := yk BK.out
  obtain ⟨b4, b5, b6, b7, b8, b9⟩ := yk HX.out
  go_wp2_with (first | (have qX_ := HXC; go_at_call 10; (with_reducible refine (vx.calls k d q _ _ r d q _ _ r true _ ?side1 ?side2 ?side3 ?side4 M.out).mono ?_); (case side1 => exact cU HXR.out); (case side2 => exact qX_.out); (case side3 => exact cU (Kd.wz s.out HB.out)); (case side4 => exact u.out); rintro e c0 ⟨rfl, hb⟩; have n_ := aC (vp (bU BK.out) hb) (aC (bs hb) (aC (vp (bU HX.out) hb) (aC (Kd.wz (cU HXR.out) hb) (aC (vp (bU HY.out) hb) (aE (Kd.wz (cU HYR.out) hb)))))); clear BK HB HX HXR HY HYR; obtain ⟨BK, HB, HX, HXR, HY, HYR⟩ := n_; obtain ⟨B, D, hz2, hf0, hf1, hf2⟩ := yk BK.out; clear HXC qX_; obtain ⟨d0, X, d1, d2, d3, d4⟩ := yk HY.out) | (go_at_call 10; (with_reducible refine (vx.calls k d q _ _ r d q _ _ r true _ ?side1 ?side2 ?side3 ?side4 M.out).mono ?_); (case side1 => exact cU HYR.out); (case side2 => exact HYC.out); (case side3 => exact cU (Kd.wz s.out HB.out)); (case side4 => exact u.out); rintro e d5 ⟨rfl, hb⟩; have n_ := aC (vp (bU BK.out) hb) (aC (bs hb) (aC (vp (bU HX.out) hb) (aC (Kd.wz (cU HXR.out) hb) (aC (vp (bU HY.out) hb) (aE (Kd.wz (cU HYR.out) hb)))))); clear BK HB HX HXR HY HYR; obtain ⟨BK, HB, HX, HXR, HY, HYR⟩ := n_; obtain ⟨B, D, hz2, hf0, hf1, hf2⟩ := yk BK.out) | (go_at_call 11; (with_reducible refine (vA.calls k d q _ _ r o1 _ ?side1 ?side2 Z.out).mono ?_); (case side1 => exact cU (Kd.wz s.out HB.out)); (case side2 => exact u.out); rintro e d6 ⟨v_, rfl, E, hb⟩; obtain ⟨a7, a8, e_⟩ := Kd.vY E; subst e_; have n_ := aC (vp (bU BK.out) hb) (aC (bs hb) (aC (vp (bU HX.out) hb) (aC (Kd.wz (cU HXR.out) hb) (aC (vp (bU HY.out) hb) (aE (Kd.wz (cU HYR.out) hb)))))); clear BK HB HX HXR HY HYR; obtain ⟨BK, HB, HX, HXR, HY, HYR⟩ := n_; obtain ⟨B, D, hz2, hf0, hf1, hf2⟩ := yk BK.out) | (go_at_call 12; (with_reducible refine (vv.calls k d q _ _ r o2 _ ?side1 ?side2 a0.out).mono ?_); (case side1 => exact cU (Kd.wz s.out HB.out)); (case side2 => exact u.out); rintro e d7 ⟨v_, rfl, E, hb⟩; obtain ⟨a9, b0, e_⟩ := Kd.vY E; subst e_; have n_ := aC (vp (bU BK.out) hb) (aC (bs hb) (aC (vp (bU HX.out) hb) (aC (Kd.wz (cU HXR.out) hb) (aC (vp (bU HY.out) hb) (aE (Kd.wz (cU HYR.out) hb)))))); clear BK HB HX HXR HY HYR; obtain ⟨BK, HB, HX, HXR, HY, HYR⟩ := n_; obtain ⟨B, D, hz2, hf0, hf1, hf2⟩ := yk BK.out) | (go_at_call 5; (with_reducible refine (we.calls k true _ (TIs.on HTI) a1.out).mono ?_); rintro e d8 ⟨rfl, hb⟩; have n_ := aE (bs hb); clear HB; have HB := n_))
  go_ret
  exact ⟨re, bl⟩
end Go.Proofs.YtknclbodinfbeaaGreatDoor.PRunsBack
