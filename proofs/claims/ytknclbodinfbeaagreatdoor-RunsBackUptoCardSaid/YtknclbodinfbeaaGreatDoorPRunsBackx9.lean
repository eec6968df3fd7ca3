-- printed (wip/tools/myprint.py)
import Derived.Test.YtknclbodinfbeaaGreatDoorPRunsBackx0
import Derived.Test.YtknclbodinfbeaaGreatDoorPRunsBackx7
import Derived.Test.YtknclbodinfbeaaGreatDoorPRunsBackx8
namespace Go.Proofs.YtknclbodinfbeaaGreatDoor.PRunsBack
open Go.RowKit Go.Proofs.YtknclbodinfbeaaGreatDoorW.PrintWords Go.Proofs.YtknclbodinfbeaaGreatDoorW.PrintLast Go.Proofs.YtknclbodinfbeaaGreatDoorW.PrintMore
attribute [local go_sem] yo ym yC yD xU xT yn yq
set_option linter.unusedVariables false
set_option linter.unusedSimpArgs false
set_option maxHeartbeats 8000000
set_option maxRecDepth 100000
def wS.l0 : Nat → List Int → List Int → Int → Int → Option (List Int × Int)
 | 0, _, _, _, _ => none
 | k + 1, x4, e, j, d => if d < j then (if 0 ≤ d then (if d < (e.length : Int) then (if (rd e d) > 1 then (some (([] : List Int), 2)) else (if 0 ≤ (wrap64 (Int.tdiv d 8)) then (if (wrap64 (Int.tdiv d 8)) < (x4.length : Int) then (if 0 ≤ (wrap64 (7 - (Int.tmod d 8))) then (wS.l0 k (x4.set ((wrap64 (Int.tdiv d 8)) : Int).toNat (Go.bits .or .u8 (rd x4 (wrap64 (Int.tdiv d 8))) (shl .u8 (rd e d) (wrap64 (7 - (Int.tmod d 8)))))) e j (wrap64 (d + 1))) else (none)) else (none)) else (none))) else (none)) else (none)) else (some (x4, 0))
def wS.f (k : Nat) (l0 : List Int) : Option (List Int × Int) := if 0 ≤ (wrap64 (Int.tdiv (wrap64 ((l0.length : Int) + 7)) 8)) then (if (wrap64 (Int.tdiv (wrap64 ((l0.length : Int) + 7)) 8) : Int).toNat ≤ 281474976710656 then (wS.l0 k (List.replicate (wrap64 (Int.tdiv (wrap64 ((l0.length : Int) + 7)) 8) : Int).toNat 0) l0 (l0.length : Int) 0) else (none)) else (none)
theorem wS.wt : ∀ k, (∀ y0 y1 y2 y3, vK (wS.l0 k y0 y1 y2 y3) (wS.l0 (k + 1) y0 y1 y2 y3))
 | 0 => fun _ _ _ _ r h => by simp [wS.l0] at h
 | k + 1 => by
  have ih0 := wS.wt k
  ·intro y0 y1 y2 y3
   unfold wS.l0
   repeat' first
   | (with_reducible exact ih0 _ _ _ _)
   | (with_reducible first | exact vK.refl _ | exact vK.none _ | apply vK.ite | apply vK.bind | intro)
theorem wS.mono : ∀ a0 k, vK (wS.f k a0) (wS.f (k + 1) a0) := by
 intro a0 k
 have ih0 := wS.wt k
 unfold wS.f
 repeat' first
   | (with_reducible exact ih0 _ _ _ _)
   | (with_reducible first | exact vK.refl _ | exact vK.none _ | apply vK.ite | apply vK.bind | intro)
def wS.T7 : Bool × List (List Nat × List Nat) := (true, [([], []), ([], []), ([1], [1]), ([0, 2], [0, 2]), ([3], [3]), ([], []), ([], []), ([6], [6]), ([7], [7]), ([5, 8], [5, 8]), ([4, 9], [4, 9]), ([0, 2, 0, 1, 2, 3, 4, 5, 6, 7, 8, 9, 10], [0, 2]), ([11, 10, 0, 1, 2, 3, 4, 5, 6, 7, 8, 9, 10], [10, 11])])
def wS.B7 : List Nat := [0, 0, 2, 7, 15, 0, 0, 64, 192, 480, 1023, 2047, 4095]
theorem wS.tab7 : zi .any (opsOf Tryz.f22 7) = wS.T7 := by kernel_rfl
theorem wS.bits7 : yv wS.T7.2 wS.B7 = true := by kernel_rfl
theorem wS.calls (k : Nat) (A0 : Option Addr) (c0 : Nat) (l0 : List Int) (r1 : List Int) (r2 : Int) (w : World) (hr0 : Kd.C (Kd.int .u8) w A0 l0.length l0) (b1 : l0.length ≤ c0) (h : wS.f k l0 = some (r1, r2)) :
  Calls Tryz.prog 22 #[.slice A0 l0.length c0] w fun e w' => ∃ b2 : Value, e = .returned (.tuple #[b2, .int .i64 r2]) ∧ Kd.R (Kd.int .u8) 5 w' w.heap.size (fun _ => True) b2 r1 ∧ Below w.heap.size w w' := by
 have b3 := aE hr0
 have e8 := aE b1
 clear hr0 b1
 have HB := bR w
 have H := h
 unfold wS.f at H
 clear h
 obtain ⟨z, D⟩ : ∃ j_ : Int, (wrap64 (Int.tdiv (wrap64 ((l0.length : Int) + 7)) 8)) = j_ := ⟨_, rfl⟩
 replace H : (if 0 ≤ (z) then (if (z : Int).toNat ≤ 281474976710656 then (wS.l0 k (List.replicate (z : Int).toNat 0) l0 (l0.length : Int) 0) else (none)) else (none)) = some (r1, r2) := by first | (rw [D] at H; exact H) | (simp only [D] at H ⊢; exact H)
 have d0 : (IntKind.i64.wrap (Int.tdiv (wrap64 ((l0.length : Int) + 7)) 8)) = z := (xS _).trans D
 by_cases c3 : 0 ≤ (z)
 ·rw [if_pos c3] at H
  have d8 := eq_true c3
  have d9 := decide_eq_true c3
  clear c3
  by_cases c4 : (z : Int).toNat ≤ 281474976710656
  ·rw [if_pos c4] at H
   have e0 := eq_true c4
   have e1 := decide_eq_true c4
   clear c4
   obtain ⟨a1, hy_⟩ : ∃ y_ : List Int, y_ = (List.replicate (z : Int).toNat 0) := ⟨_, rfl⟩
   replace H : (wS.l0 k a1 l0 (l0.length : Int) 0) = some (r1, r2) := rh
   have J := aE hy_
   clear hy_
   have H' := aE H
   clear H
   go_enter Tryz.func22, Tryz.ntmps22
   go_wp2_with (first | ((with_reducible refine gd 11 rfl ?_); refine Kd.jN (Kd.int .u8) _ 5 rfl (N := 11) rfl 22 _ _ rfl z rfl rfl Tryz.underlying22 (.int .u8 0) 1 info5 rfl (by decide) (by omega) 0 (ok := fun _ => True) (okp := fun _ => True) rfl (fun _ hk => hk) trivial (dt) (Nat.le_trans (Nat.mul_le_mul_right _ (dt : z.toNat ≤ 281474976710656)) (by omega)) (Below.refl _ _) (Nat.le_refl _) ?_; intro b4 w5 L hb hg_ hnew_; clear hg_ hnew_; (first | rw [← J.out] at L | (simp only [Int.reduceToNat] at L; rw [← J.out] at L)); have n_ := aC (Kd.vS L bz) (aE (bs hb)); clear HB; obtain ⟨a6, HB⟩ := n_; clear hb L))
   go_loopg [14] k (fun kq d1 w' => ∃ (q : List Int) (d : Int), d1 = .int .i64 d ∧ Aside0 (wS.l0 kq q l0 (l0.length : Int) d = some (r1, r2)) ∧ Aside0 (kq ≤ k) ∧ Aside0 (Kd.R (Kd.int .u8) 5 w' w.heap.size (fun _ => True) b4 q) ∧ Aside0 (Below w.heap.size w w'))
   case atStart => exact ⟨(a1), (0), rq, H', ⟨Nat.le_refl _⟩, ⟨rU a6.out⟩, ⟨bl⟩⟩
   case round =>
    clear H'
    obtain ⟨q, d, rfl, HA, b5, s, HB⟩ := hrel
    cases gk with
    | zero => exact absurd HA.out (by simp [wS.l0])
    | succ k1 =>
     have H := HA.out
     clear HA
     simp only [wS.l0] at H
     rcases iL H with H1 | H1 <;> clear H <;> obtain ⟨H, e2⟩ := H1
     ·by_cases c8 : 0 ≤ d
      ·rw [if_pos c8] at H
       have e3 := decide_eq_true c8
       clear c8
       by_cases c9 : d < (l0.length : Int)
       ·rw [if_pos c9] at H
        have e4 := decide_eq_true c9
        clear c9
        rcases iL H with H1 | H1 <;> clear H <;> obtain ⟨H, d2⟩ := H1
        ·simp only [Option.some.injEq, Prod.mk.injEq] at H
         obtain ⟨rfl, rfl⟩ := H
         have u : 0 ≤ (d : Int) := dt
         have x : d < (l0.length : Int) := dt
         obtain ⟨a7, M, r⟩ := Kd.yc b3.out d u x
         cases M
         replace r := hcB HB.out r
         replace u := eq_true u
         replace x := eq_true x
         go_wp2
         go_ret2
         exact ⟨_, by first | rfl | (simp [wP, wQ] <;> rfl) | (simp only [← D]; first | rfl | (simp [wP, wQ] <;> rfl)) | (simp [*, wP, wQ] <;> rfl), by first | exact Kd.yu _ _ _ _ _ | exact Kd.yR _ _ _ _ _ | exact Kd.yS _ _ _ _ _ | exact Kd.yP _ _ _ _ _ | exact Kd.yV _ _ _ _ _, bl⟩
        ·obtain ⟨j, G⟩ : ∃ j_ : Int, (wrap64 (Int.tdiv d 8)) = j_ := ⟨_, rfl⟩
         replace H : (if 0 ≤ (j) then (if (j) < (q.length : Int) then (if 0 ≤ (wrap64 (7 - (Int.tmod d 8))) then (wS.l0 k1 (q.set ((j) : Int).toNat (Go.bits .or .u8 (rd q (j)) (shl .u8 (rd l0 d) (wrap64 (7 - (Int.tmod d 8)))))) l0 (l0.length : Int) (wrap64 (d + 1))) else (none)) else (none)) else (none)) = some (r1, r2) := by first | (rw [G] at H; exact H) | (simp only [G] at H ⊢; exact H)
         have b7 : (IntKind.i64.wrap (Int.tdiv d 8)) = j := (xS _).trans G
         by_cases Y : 0 ≤ (j)
         ·rw [if_pos Y] at H
          have d3 := decide_eq_true Y
          clear Y
          by_cases Z : (j) < (q.length : Int)
          ·rw [if_pos Z] at H
           have d4 := decide_eq_true Z
           clear Z
           obtain ⟨t, I⟩ : ∃ j_ : Int, (wrap64 (7 - (Int.tmod d 8))) = j_ := ⟨_, rfl⟩
           replace H : (if 0 ≤ (t) then (wS.l0 k1 (q.set ((j) : Int).toNat (Go.bits .or .u8 (rd q (j)) (shl .u8 (rd l0 d) (t)))) l0 (l0.length : Int) (wrap64 (d + 1))) else (none)) = some (r1, r2) := by first | (rw [I] at H; exact H) | (simp only [I] at H ⊢; exact H)
           have b8 : (IntKind.i64.wrap (7 - (Int.tmod d 8))) = t := (xS _).trans I
           by_cases O : 0 ≤ (t)
           ·rw [if_pos O] at H
            have d5 := eq_true O
            have d6 := decide_eq_true O
            clear O
            obtain ⟨E, B⟩ : ∃ j_ : Int, (shl .u8 (rd l0 d) (t)) = j_ := ⟨_, rfl⟩
            replace H : (wS.l0 k1 (q.set ((j) : Int).toNat (Go.bits .or .u8 (rd q (j)) (E))) l0 (l0.length : Int) (wrap64 (d + 1))) = some (r1, r2) := by first | (rw [B] at H; exact H) | (simp only [B] at H ⊢; exact H)
            have b9 : (IntKind.u8.wrap ((rd l0 d) * 2 ^ min (t).toNat 8)) = E := B
            have c1 : (t) ≤ 8 → (IntKind.u8.wrap ((rd l0 d) * 2 ^ (t).toNat)) = E := zP B
            obtain ⟨a2, hy_⟩ : ∃ y_ : List Int, y_ = (q.set ((j) : Int).toNat (Go.bits .or .u8 (rd q (j)) (E))) := ⟨_, rfl⟩
            replace H : (wS.l0 k1 a2 l0 (l0.length : Int) (wrap64 (d + 1))) = some (r1, r2) := rh
            have a8 := aE hy_
            clear hy_
            have H' := aE H
            clear H
            have u : 0 ≤ (d : Int) := dt
            have x : d < (l0.length : Int) := dt
            obtain ⟨a7, M, r⟩ := Kd.yc b3.out d u x
            cases M
            replace r := hcB HB.out r
            replace u := eq_true u
            replace x := eq_true x
            try go_wp2
            have n_ := aC (Kd.jT s.out) (aE (vy HB.out))
            clear s HB
            obtain ⟨s, HB⟩ := n_
            obtain ⟨e5, e6, a3⟩ := Kd.vY s.out
            (first | subst a3 | (injection a3 with f1_ f2_ f3_; have f4_ := f1_.symm; have f5_ := f3_.symm; clear f1_ f2_ f3_; subst f4_; subst f5_))
            have T : 0 ≤ ((j) : Int) := dt
            have X : (j) < (q.length : Int) := dt
            obtain ⟨d7, b6, y⟩ := Kd.yc (Kd.R_reads' s.out).2.2 (j) T X
            cases b6
            replace T := eq_true T
            replace X := eq_true X
            have a9 : 0 ≤ ((j) : Int) := dt
            have b0 : ((j) : Int) < ((q.length : Int) : Int) := dt
            obtain ⟨go17, e7, a4, a5, gl17, cl17, HG17⟩ := Kd.R_form s.out (by omega)
            (first | cases a4 | (injection a4 with ea_ en_ ec_; (first | subst ea_ | (injection ea_ with ea_; subst ea_)); subst ec_; clear en_))
            have GB17 := aE a5
            have GG17 := aE HG17
            clear a5 gl17 HG17
            (first | simp only [add_plain] at y | skip)
            obtain ⟨a0, hf17_0⟩ := Kd.R_celln 0 s.out ((j) : Int) a9 b0
            replace a9 := eq_true a9
            replace b0 := eq_true b0
            have HP20 := Kd.R_putn s.out ((j) : Int) (Go.bits .or .u8 (rd q (j)) (E))
            rw [← a8.out] at HP20
            have HQ20 := aE HP20
            clear HP20
            refine st 13 (fun w' => w'.cell? ⟨go17, ((j)).toNat, none⟩ = some (.int .u8 (rd q (j)))) [12] (bv 13 0) wS.tab7 wS.bits7 (y) (fun hHeld HT_ HW_ => ?_)
            generalize wr.drew = e9 at s HB GG17 HQ20 hf17_0 a0 y hHeld ⊢
            refine pu 0 21 (bv 13 1) HT_ rfl rfl ?_
            refine pu 1 22 (bv 13 3) HT_ rfl rfl ?_
            refine pu 2 23 (bv 13 7) HT_ rfl rfl ?_
            refine pu 3 24 (bv 13 15) HT_ rfl rfl ?_
            refine pu 5 26 (bv 13 47) HT_ rfl rfl ?_
            refine pu 6 27 (bv 13 111) HT_ rfl rfl ?_
            refine pu 7 28 (bv 13 239) HT_ rfl rfl ?_
            refine pu 8 29 (bv 13 495) HT_ rfl rfl ?_
            refine pu 9 30 (bv 13 1007) HT_ rfl rfl ?_
            refine take_ (i := 4) (N := some 25) (v := ?_) (a' := ?_) (bv 13 1023) rfl rfl (take_ofW HT_.out HW_.out (by kernel_rfl)) (fun _ _ _ h => h) (Or.inl ⟨by rfl, ?_⟩) hHeld ?_ ?_
            rotate_left
            ·intro w' s0
             go_simp
             with_reducible rfl
            rotate_left
            ·simp only [Act.put, List.setIfInBounds_toArray, List.set_cons_zero, List.set_cons_succ, xS, zK]
             rfl
            refine pu 10 31 (bv 13 2047) HT_ rfl rfl ?_
            refine pu 11 32 (bv 13 4095) HT_ rfl rfl ?_
            refine last_ (i := 12) (N := none) (bv 13 8191) rfl rfl (xl HT_.out (by kernel_rfl)) (by decide) (fun K hK => ?_)
            refine skip_ (w1 := ?_) (by rfl) rfl ?_ ?_
            rotate_left
            ·go_simp
             rfl
            refine hK.out _ _ ?_
            clear hK K
            refine zd (xZ HT_.out (by kernel_rfl)) ?_
            try go_wp2
            go_roundg k1
            case measure => have := b5.out; omega
            case rel => exact ⟨(a2), (wrap64 (d + 1)), rq, H', ⟨by have := b5.out; omega⟩, ⟨by (with_reducible repeat (first | apply Kd.R_alloc | apply Kd.qE | apply Kd.jT)); exact HQ20.out⟩, ⟨by repeat (first | (with_reducible first | exact HB.out | apply vG | apply vz | apply vy | refine vW ?_ GB17.out) | exact HB.out)⟩⟩
           ·rw [if_neg O] at H
            exact nB H
          ·rw [if_neg Z] at H
           exact nB H
         ·rw [if_neg Y] at H
          exact nB H
       ·rw [if_neg c9] at H
        exact nB H
      ·rw [if_neg c8] at H
       exact nB H
     ·simp only [Option.some.injEq, Prod.mk.injEq] at H
      obtain ⟨rfl, rfl⟩ := H
      go_wp2
      go_ret2
      exact ⟨_, by first | rfl | (simp [wP, wQ] <;> rfl) | (simp only [← D]; first | rfl | (simp [wP, wQ] <;> rfl)) | (simp [*, wP, wQ] <;> rfl), rU s.out, bl⟩
  ·rw [if_neg c4] at H
   exact nB H
 ·rw [if_neg c3] at H
  exact nB H
mutual
def xw.l0 : Nat → List Int → List (List Int) → Int → Int → Option (List Int × Int)
 | 0, _, _, _, _ => none
 | k + 1, x4, q, r, d => if d < r then (if 0 ≤ d then (if d < (q.length : Int) then ((xd.f k (zc q d)).bind fun j => (xw.l1 k x4 q r d j (j.length : Int) 0)) else (none)) else (none)) else ((wS.f k x4).bind fun e => (some (e.1, e.2)))
def xw.l1 : Nat → List Int → List (List Int) → Int → Int → List Int → Int → Int → Option (List Int × Int)
 | 0, _, _, _, _, _, _, _ => none
 | k + 1, x4, q, r, s, j, t, d => if d < t then (if 0 ≤ d then (if d < (j.length : Int) then ((wZ.f k (rd j d) (Int.tmod d 2)).bind fun e => (if x4.length + e.length < 140737488355328 then (xw.l1 k (x4 ++ e) q r s j t (wrap64 (d + 1))) else (none))) else (none)) else (none)) else (xw.l0 k x4 q r (wrap64 (s + 1)))
end
def xw.f (k : Nat) (d : Int) (e : Int) (j : List Int) : Option (List Int × Int) := (wx.f k d e j).bind fun r => (if r = true then ((xg.f k d e j).bind fun q => (xw.l0 k ([] : List Int) q (q.length : Int) 0)) else (some (([] : List Int), 30)))
theorem xw.wt : ∀ k, (∀ y0 y1 y2 y3, vK (xw.l0 k y0 y1 y2 y3) (xw.l0 (k + 1) y0 y1 y2 y3)) ∧ (∀ y0 y1 y2 y3 y4 y5 y6, vK (xw.l1 k y0 y1 y2 y3 y4 y5 y6) (xw.l1 (k + 1) y0 y1 y2 y3 y4 y5 y6))
 | 0 => ⟨fun _ _ _ _ r h => by simp [xw.l0] at h, fun _ _ _ _ _ _ _ r h => by simp [xw.l1] at h⟩
 | k + 1 => by
  obtain ⟨ih0, ih1⟩ := xw.wt k
  refine ⟨?_, ?_⟩
  ·intro y0 y1 y2 y3
   unfold xw.l0
   repeat' first
   | (with_reducible exact ih0 _ _ _ _)
   | (with_reducible exact ih1 _ _ _ _ _ _ _)
   | (with_reducible exact wx.mono _ _ _ _)
   | (with_reducible exact wS.mono _ _)
   | (with_reducible exact xg.mono _ _ _ _)
   | (with_reducible exact xd.mono _ _)
   | (with_reducible exact wZ.mono _ _ _)
   | (with_reducible first | exact vK.refl _ | exact vK.none _ | apply vK.ite | apply vK.bind | intro)
  ·intro y0 y1 y2 y3 y4 y5 y6
   unfold xw.l1
   repeat' first
   | (with_reducible exact ih0 _ _ _ _)
   | (with_reducible exact ih1 _ _ _ _ _ _ _)
   | (with_reducible exact wx.mono _ _ _ _)
   | (with_reducible exact wS.mono _ _)
   | (with_reducible exact xg.mono _ _ _ _)
   | (with_reducible exact xd.mono _ _)
   | (with_reducible exact wZ.mono _ _ _)
   | (with_reducible first | exact vK.refl _ | exact vK.none _ | apply vK.ite | apply vK.bind | intro)
theorem xw.mono : ∀ a0 a1 a2 k, vK (xw.f k a0 a1 a2) (xw.f (k + 1) a0 a1 a2) := by
 intro a0 a1 a2 k
 obtain ⟨ih0, ih1⟩ := xw.wt k
 unfold xw.f
 repeat' first
   | (with_reducible exact ih0 _ _ _ _)
   | (with_reducible exact ih1 _ _ _ _ _ _ _)
   | (with_reducible exact wx.mono _ _ _ _)
   | (with_reducible exact wS.mono _ _)
   | (with_reducible exact xg.mono _ _ _ _)
   | (with_reducible exact xd.mono _ _)
   | (with_reducible exact wZ.mono _ _ _)
   | (with_reducible first | exact vK.refl _ | exact vK.none _ | apply vK.ite | apply vK.bind | intro)
theorem xw.calls (k : Nat) (z : Int) (B : Int) (G : Option Addr) (I : Nat) (u : List Int) (r1 : List Int) (r2 : Int) (w : World) (hr0_2 : Kd.C (Kd.int .u8) w G u.length u) (a4 : u.length ≤ I) (h : xw.f k z B u = some (r1, r2)) :
  Calls Tryz.prog 6 #[.agg #[.int .i64 z, .int .i64 B, .slice G u.length I]] w fun e w' => ∃ e2 : Value, e = .returned (.tuple #[e2, .int .i64 r2]) ∧ Kd.R (Kd.int .u8) 5 w' w.heap.size (fun _ => True) e2 r1 ∧ Below w.heap.size w w' := by
 have hu24 := Tryz.underlying24
 have a0 := aE hr0_2
 have a1 := aE a4
 clear hr0_2 a4
 have HB := bR w
 have H := h
 unfold xw.f at H
 clear h
 obtain ⟨e3, A2, H⟩ := oB H
 try dsimp only at H
 by_cases c3 : e3 = true
 ·subst c3
  rw [if_pos rfl] at H
  obtain ⟨t, A4, H⟩ := oB H
  try dsimp only at H
  have H' := aE H
  clear H
  go_enter Tryz.func6, Tryz.ntmps6
  go_wp2_with (first | ((with_reducible refine gd 1 rfl ?_); refine bx 1 #[.int .i64 z, .int .i64 B, .slice G u.length I] 24 rfl rfl ?_; intro E hg w5 hbox hb; have n_ := aC (bs hb) (aC hbox (aC (gz hg) (aE (gz hg)))); clear HB; obtain ⟨HB, d, a5, d5⟩ := n_; clear hb hbox hg; obtain ⟨g2, g3, g4, g5, g6, g7⟩ := yk d.out) | ((with_reducible refine gf 18 rfl ?_); refine gL (some 10) rfl rfl Tryz.func18 rfl #[.agg #[.int .i64 z, .int .i64 B, .slice G u.length I]] rfl ?_; (with_reducible refine (wx.calls k z B _ _ u true _ ?side1 ?side2 A2.out).mono ?_); (case side1 => exact cU (Kd.wz a0.out HB.out)); (case side2 => exact a1.out); rintro e w7 ⟨rfl, hb⟩; refine ⟨_, rfl, ?_⟩; have n_ := aC (vp (bU d.out) hb) (aE (bs hb)); clear d HB; obtain ⟨d, HB⟩ := n_; obtain ⟨g8, g9, h3, h4, h5, h6⟩ := yk d.out) | ((with_reducible refine gf 19 rfl ?_); refine gL (some 13) rfl rfl Tryz.func19 rfl #[.agg #[.int .i64 z, .int .i64 B, .slice G u.length I]] rfl ?_; (with_reducible refine (xg.calls k z B (fun k_ => k_ < w.heap.size) _ _ u t _ ?side1 A4.out).mono ?_); (case side1 => exact Kd.V_mk a1.out (Kd.kr (Kd.C_F (Kd.yH .u8) a0.out) bl)); rintro e w9 ⟨i8, rfl, L, hb⟩; refine ⟨_, rfl, ?_⟩; have n_ := aC (Kd.N_lower (Kd.zG (ok' := fun k_ => k_ ≠ E) L (fun k_ hk_ => Or.elim hk_ (fun hs_ => fun e_ => Nat.not_le.2 hs_ (by rw [e_]; exact a5.out)) (fun hn_ => (Kd.kz (bU d.out) k_ hn_)))) bz) (aC (vp (bU d.out) hb) (aE (bs hb))); clear d HB; obtain ⟨a6, d, HB⟩ := n_; obtain ⟨e4, d0, e5⟩ := Kd.N_slice a6.out; subst e5))
  go_loopg [4, 15] k (fun kq v4 h7 w' => ∃ (T : List Int) (r : Int), h7 = .int .i64 r ∧ Aside0 (xw.l0 kq T t (t.length : Int) r = some (r1, r2)) ∧ Aside0 (kq ≤ k) ∧ Aside0 (Kd.R (Kd.int .u8) 5 w' w.heap.size (fun _ => True) v4 T) ∧ Aside0 (Kd.N (Kd.slice 5 (Kd.int .u8)) 22 w' w.heap.size (fun k_ => some k_ ≠ (v4 : Value).ownBlock ∧ k_ ≠ E) (.slice e4 t.length d0) t) ∧ Aside0 (w'.heap[E]? = some (.cells #[.int .i64 z, .int .i64 B, (.slice G u.length I)] 24 (0, 0))) ∧ Aside0 (Below w.heap.size w w'))
  case atStart => exact ⟨(([] : List Int)), (0), rq, H', ⟨Nat.le_refl _⟩, ⟨by first | exact Kd.yu _ _ _ _ _ | exact Kd.yR _ _ _ _ _ | exact Kd.yS _ _ _ _ _ | exact Kd.yP _ _ _ _ _ | exact Kd.yV _ _ _ _ _⟩, ⟨by (with_reducible repeat (first | apply Kd.yZ | apply Kd.yX | apply Kd.zv)); exact Kd.zG a6.out (fun _ hk => ⟨(by simp [Value.ownBlock]), hk⟩)⟩, ⟨bU d.out⟩, ⟨bl⟩⟩
  case round =>
   clear H'
   obtain ⟨T, r, rfl, HA, b3, q, j, d, HB⟩ := hrel
   cases gk with
   | zero => exact absurd HA.out (by simp [xw.l0])
   | succ k1 =>
    have H := HA.out
    clear HA
    simp only [xw.l0] at H
    rcases iL H with H1 | H1 <;> clear H <;> obtain ⟨H, h8⟩ := H1
    ·by_cases b4 : 0 ≤ r
     ·rw [if_pos b4] at H
      have h9 := decide_eq_true b4
      clear b4
      by_cases b5 : r < (t.length : Int)
      ·rw [if_pos b5] at H
       have i0 := decide_eq_true b5
       clear b5
       obtain ⟨x, i1, H⟩ := oB H
       try dsimp only at H
       have H' := aE H
       clear H
       have a2 : 0 ≤ (r : Int) := dt
       have a3 : r < (t.length : Int) := dt
       obtain ⟨d6, b6, b7, e6, a7, Y, Z⟩ := at_L8 (Kd.N_reads' j.out).2.2 r a2 a3
       cases e6
       obtain ⟨ce308, hce308, hMe308, hcc308⟩ := Kd.N_get j.out [] r a2 (by first | exact a3 | exact dt | (have e_ := (Kd.N_reads' j.out).1; omega))
       obtain ⟨ua308_0, uc308_0, rfl, ul308_0, ge308_0⟩ := Kd.kt hMe308
       have J := hcc308 0 _ rfl
       rw [Nat.add_zero, show ((Kd.slice 5 (Kd.int .u8))).sz = 1 from rfl, Nat.mul_one] at J
       replace J := Option.some.inj (J.symm.trans a7)
       injection J with hva_ hvn_ hvc_
       rw [hva_] at ge308_0
       rw [hvc_] at ul308_0
       have HL308_0 := aE (show Kd.V (Kd.int .u8) 5 _ w.heap.size _ _ (zc t r) from Kd.V_mk ul308_0 ge308_0)
       clear hva_ hvn_ hvc_ ge308_0 ul308_0
       clear hcc308 hce308
       have y := aE Z
       have a8 := aE Y
       clear Z Y
       replace a2 := eq_true a2
       replace a3 := eq_true a3
       go_wp2_with (first | ((with_reducible refine gf 20 rfl ?_); refine gL (some 20) rfl rfl Tryz.func20 rfl #[.slice b6 (zc t r).length b7] rfl ?_; (with_reducible refine (xd.calls k1 _ _ (zc t r) x _ ?side1 ?side2 i1.out).mono ?_); (case side1 => repeat (first | exact (by repeat (first | (with_reducible exact y.out) | (with_reducible refine Kd.yi ?_ _) | (with_reducible refine Kd.yg ?_ _) | (with_reducible refine Kd.yr ?_) | exact y.out)) | (with_reducible refine Kd.yi ?_ _) | (with_reducible refine Kd.yg ?_ _) | (with_reducible refine Kd.yr ?_))); (case side2 => exact a8.out); rintro e j5 ⟨i9, rfl, L, hb⟩; refine ⟨_, rfl, ?_⟩; have n_ := aC (Kd.wg (rU q.out) hb) (aC (Kd.N_elder' (by (with_reducible repeat (first | apply Kd.yZ | apply Kd.yX | apply Kd.zv)); exact j.out) (Kd.xc L) hb) (aC (Kd.V_elder' (by (with_reducible repeat (first | apply Kd.zC | apply Kd.zD | apply Kd.zS)); exact HL308_0.out) (Kd.xc L) hb) (aC (Kd.vS L bz) (aC (vp (bU d.out) hb) (aC (Kd.wz (by repeat (first | (with_reducible exact y.out) | (with_reducible refine Kd.yi ?_ _) | (with_reducible refine Kd.yg ?_ _) | (with_reducible refine Kd.yr ?_) | exact y.out)) hb) (aE (bs hb))))))); clear q j HL308_0 d y HB; obtain ⟨q, j, HL308_0, a9, d, y, HB⟩ := n_; obtain ⟨d1, b0, e7⟩ := Kd.vY a9.out; subst e7))
       go_loopg [4, 22] k1 (fun kq v4 i2 w' => ∃ (O : List Int) (s : Int), i2 = .int .i64 s ∧ Aside0 (xw.l1 kq O t (t.length : Int) r x (x.length : Int) s = some (r1, r2)) ∧ Aside0 (kq ≤ k1) ∧ Aside0 (Kd.R (Kd.int .u8) 5 w' w.heap.size (fun _ => True) v4 O) ∧ Aside0 (Kd.N (Kd.slice 5 (Kd.int .u8)) 22 w' w.heap.size (fun k_ => some k_ ≠ (v4 : Value).ownBlock ∧ some k_ ≠ ((.slice d1 x.length b0) : Value).ownBlock ∧ k_ ≠ E) (.slice (some d6) t.length d0) t) ∧ Aside0 (Kd.R (Kd.int .i64) 3 w' w.heap.size (fun _ => True) (.slice d1 x.length b0) x) ∧ Aside0 (w'.heap[E]? = some (.cells #[.int .i64 z, .int .i64 B, (.slice G u.length I)] 24 (0, 0))) ∧ Aside0 (Below w.heap.size w w'))
       case atStart => exact ⟨(T), (0), rq, H', ⟨Nat.le_refl _⟩, ⟨rU q.out⟩, ⟨by (with_reducible repeat (first | apply Kd.yZ | apply Kd.yX | apply Kd.zv)); exact Kd.zG j.out (fun _ hk => ⟨hk.1.1, ⟨hk.2, hk.1.2⟩⟩)⟩, ⟨rU a9.out⟩, ⟨bU d.out⟩, ⟨bl⟩⟩
       case round =>
        clear H'
        obtain ⟨O, s, rfl, HA, b8, q, j, D, d, HB⟩ := hrel
        cases gk with
        | zero => exact absurd HA.out (by simp [xw.l1])
        | succ k2 =>
         have H := HA.out
         clear HA
         simp only [xw.l1] at H
         rcases iL H with H1 | H1 <;> clear H <;> obtain ⟨H, i3⟩ := H1
         ·by_cases b9 : 0 ≤ s
          ·rw [if_pos b9] at H
           have i4 := decide_eq_true b9
           clear b9
           by_cases c0 : s < (x.length : Int)
           ·rw [if_pos c0] at H
            have i5 := decide_eq_true c0
            clear c0
            obtain ⟨X, i6, H⟩ := oB H
            try dsimp only at H
            by_cases c1 : O.length + X.length < 140737488355328
            ·rw [if_pos c1] at H
             have d7 := aE c1
             clear c1
             obtain ⟨d2, hy_⟩ : ∃ y_ : List Int, y_ = (O ++ X) := ⟨_, rfl⟩
             replace H : (xw.l1 k2 d2 t (t.length : Int) r x (x.length : Int) (wrap64 (s + 1))) = some (r1, r2) := rh
             have d8 := aE hy_
             clear hy_
             have H' := aE H
             clear H
             have b1 : 0 ≤ (s : Int) := dt
             have b2 : s < (x.length : Int) := dt
             obtain ⟨d9, e8, e9⟩ := Kd.yc (Kd.R_reads' D.out).2.2 s b1 b2
             cases e8
             replace b1 := eq_true b1
             replace b2 := eq_true b2
             go_wp2_with (first | ((with_reducible refine gf 21 rfl ?_); refine gL (some 31) rfl rfl Tryz.func21 rfl #[.int .i64 (rd x s), .int .i64 (Int.tmod s 2)] rfl ?_; (with_reducible refine (wZ.calls k2 (rd x s) (Int.tmod s 2) X _ i6.out).mono ?_); rintro e j6 ⟨j2, rfl, L, hb⟩; refine ⟨_, rfl, ?_⟩; have n_ := aC (Kd.R_elder' (rU q.out) (Kd.xc L) hb) (aC (Kd.N_elder' (by (with_reducible repeat (first | apply Kd.yZ | apply Kd.yX | apply Kd.zv)); exact j.out) (Kd.xc L) hb) (aC (Kd.wg (rU D.out) hb) (aC (Kd.vS (Kd.R_new' L (Kd.xW (rU q.out))) bz) (aC (vp (bU d.out) hb) (aE (bs hb)))))); clear q j D d HB; obtain ⟨q, j, D, M, d, HB⟩ := n_; obtain ⟨d3, d4, f0⟩ := Kd.vY M.out; subst f0) | ((with_reducible refine wU (b := .append) (xs := #[.tmp 27, .tmp 31]) rfl ?_); at_builtin; refine Kd.xO (Kd.int .u8) (w0 := w) w.heap.size rfl (.tmp 27) (.tmp 31) 22 5 (.int .u8 0) 1 rfl Tryz.underlying22 info5 rfl (by decide) (by omega) u4 O X _ _ _ (fun k_ => some k_ ≠ (.slice d3 X.length d4 : Value).ownBlock) (fun _ => False) rfl rfl ?aO ?aR (fun _ _ h => h) (fun _ h => h.elim) ?aF ?aB ?aS ?aL ?_; (case aR => repeat (first | exact (Kd.R_reads' M.out).2.2 | (with_reducible refine Kd.yi ?_ _) | (with_reducible refine Kd.yg ?_ _) | (with_reducible refine Kd.yr ?_))); (case aB => exact bl); (case aF => exact (fun k_ hk => Kd.fresh' (Kd.xW (rU M.out)) k_ hk)); (case aO => exact (rU (Kd.vU q.out (fun _ hk => hk.2)))); (case aS => exact bz); (case aL => have := d7.out; omega); intro j3 j7 ho hb hg hat; rw [← d8.out] at ho; have n_ := aC (Kd.N_afterv (ok := (fun k_ => some k_ ≠ (.slice (some d9) x.length b0 : Value).ownBlock ∧ some k_ ≠ (.slice d3 X.length d4 : Value).ownBlock ∧ k_ ≠ E)) (by (with_reducible repeat (first | apply Kd.yZ | apply Kd.yX | apply Kd.zv)); exact Kd.zG j.out (fun _ hk => ⟨⟨hk.1.2.1, ⟨hk.2, hk.1.2.2⟩⟩, hk.1.1⟩)) hg hat) (aC (Kd.R_over' (rU D.out) (Kd.zI (rU q.out)) (by decide) hg) (aC (xz (bU d.out) hg (Kd.ja q.out d.out (by decide))) (aC (Kd.yG (ok := (fun _ => True)) (rU M.out) hg hat) (aC hb (aE ho))))); clear j D d M HB q; obtain ⟨j, D, d, M, HB, e0⟩ := n_; clear ho hb hg hat))
             go_roundg k2
             case measure => have := b3.out; have := b8.out; omega
             case rel => exact ⟨(d2), (wrap64 (s + 1)), rq, H', ⟨by have := b3.out; have := b8.out; omega⟩, ⟨rU (Kd.vU e0.out (fun _ hk => trivial))⟩, ⟨by (with_reducible repeat (first | apply Kd.yZ | apply Kd.yX | apply Kd.zv)); exact Kd.zG j.out (fun _ hk => ⟨hk.2, ⟨hk.1.1, hk.1.2.2⟩⟩)⟩, ⟨rU D.out⟩, ⟨bU d.out⟩, ⟨bl⟩⟩
            ·rw [if_neg c1] at H
             exact nB H
           ·rw [if_neg c0] at H
            exact nB H
          ·rw [if_neg b9] at H
           exact nB H
         ·have H' := aE H
          clear H
          go_wp2
          go_roundg k2
          case measure => have := b3.out; have := b8.out; omega
          case rel => exact ⟨(O), (wrap64 (r + 1)), rq, H', ⟨by have := b3.out; have := b8.out; omega⟩, ⟨rU q.out⟩, ⟨by (with_reducible repeat (first | apply Kd.yZ | apply Kd.yX | apply Kd.zv)); exact Kd.zG j.out (fun _ hk => ⟨hk.1, hk.2.2⟩)⟩, ⟨bU d.out⟩, ⟨bl⟩⟩
      ·rw [if_neg b5] at H
       exact nB H
     ·rw [if_neg b4] at H
      exact nB H
    ·obtain ⟨⟨f1, f2⟩, i7, H⟩ := oB H
     try dsimp only at H
     simp only [Option.some.injEq, Prod.mk.injEq] at H
     obtain ⟨rfl, rfl⟩ := H
     obtain ⟨f3, f4, f5⟩ := Kd.vY q.out
     subst f5
     go_wp2_with (first | ((with_reducible refine gf 22 rfl ?_); refine gL (some 36) rfl rfl Tryz.func22 rfl #[.slice f3 T.length f4] rfl ?_; (with_reducible refine (wS.calls k1 _ _ T f1 f2 _ ?side1 ?side2 i7.out).mono ?_); (case side1 => exact cU (Kd.R_reads' q.out).2.2); (case side2 => exact (Kd.R_reads' q.out).2.1); rintro e j8 ⟨j4, rfl, L, hb⟩; refine ⟨_, rfl, ?_⟩; have n_ := aC (Kd.R_elder' (rU q.out) (Kd.xc L) hb) (aC (Kd.N_elder' (by (with_reducible repeat (first | apply Kd.yZ | apply Kd.yX | apply Kd.zv)); exact j.out) (Kd.xc L) hb) (aC (Kd.vS (Kd.R_new' L (Kd.xW (rU q.out))) bz) (aC (vp (bU d.out) hb) (aE (bs hb))))); clear q j d HB; obtain ⟨q, j, e1, d, HB⟩ := n_))
     go_ret2
     exact ⟨_, re, rU (Kd.vU e1.out (fun _ hk => trivial)), bl⟩
 ·replace c3 := Bool.eq_false_iff.mpr c3
  subst c3
  rw [if_neg Bool.false_ne_true] at H
  simp only [Option.some.injEq, Prod.mk.injEq] at H
  obtain ⟨rfl, rfl⟩ := H
  go_enter Tryz.func6, Tryz.ntmps6
  go_wp2_with (first | ((with_reducible refine gd 1 rfl ?_); refine bx 1 #[.int .i64 z, .int .i64 B, .slice G u.length I] 24 rfl rfl ?_; intro E hg j9 hbox hb; have n_ := aC (bs hb) (aC hbox (aC (gz hg) (aE (gz hg)))); clear HB; obtain ⟨HB, d, a5, d5⟩ := n_; clear hb hbox hg; obtain ⟨f6, f7, f8, f9, g0, g1⟩ := yk d.out) | ((with_reducible refine gf 18 rfl ?_); refine gL (some 10) rfl rfl Tryz.func18 rfl #[.agg #[.int .i64 z, .int .i64 B, .slice G u.length I]] rfl ?_; (with_reducible refine (wx.calls k z B _ _ u false _ ?side1 ?side2 A2.out).mono ?_); (case side1 => exact cU (Kd.wz a0.out HB.out)); (case side2 => exact a1.out); rintro e k0 ⟨rfl, hb⟩; refine ⟨_, rfl, ?_⟩; have n_ := aC (vp (bU d.out) hb) (aE (bs hb)); clear d HB; obtain ⟨d, HB⟩ := n_))
  go_ret2
  exact ⟨_, re, by first | exact Kd.yu _ _ _ _ _ | exact Kd.yR _ _ _ _ _ | exact Kd.yS _ _ _ _ _ | exact Kd.yP _ _ _ _ _ | exact Kd.yV _ _ _ _ _, bl⟩
def xB.l0 : Nat → List Int → Int → Int → Option (List Int)
 | 0, _, _, _ => none
 | k + 1, x3, x8, x9 => if x9 < x8 then (if 0 ≤ x9 then (if x9 < (x3.length : Int) then (xB.l0 k (x3.set (x9 : Int).toNat (((rd x3 x9) - 48) % 256)) x8 (wrap64 (x9 + 1))) else (none)) else (none)) else (some x3)
def xB.f (k : Nat) (a0 : ByteArray) : Option (List Int) := if a0.size ≤ 140737488355328 then ((some (bytesOf a0 : List Int)).bind fun d => (xB.l0 k d (d.length : Int) 0)) else (none)
theorem xB.wt : ∀ k, (∀ y0 y1 y2, vK (xB.l0 k y0 y1 y2) (xB.l0 (k + 1) y0 y1 y2))
 | 0 => fun _ _ _ r h => by simp [xB.l0] at h
 | k + 1 => by
  have ih0 := xB.wt k
  ·intro y0 y1 y2
   unfold xB.l0
   repeat' first
   | (with_reducible exact ih0 _ _ _)
   | (with_reducible first | exact vK.refl _ | exact vK.none _ | apply vK.ite | apply vK.bind | intro)
theorem xB.mono : ∀ a0 k, vK (xB.f k a0) (xB.f (k + 1) a0) := by
 intro a0 k
 have ih0 := xB.wt k
 unfold xB.f
 repeat' first
   | (with_reducible exact ih0 _ _ _)
   | (with_reducible first | exact vK.refl _ | exact vK.none _ | apply vK.ite | apply vK.bind | intro)
theorem xB.calls (k : Nat) (a0 : ByteArray) (r : List Int) (w : World) (h : xB.f k a0 = some r) :
  Calls Tryz.prog 40 #[.string a0] w fun e w' => ∃ T : Value, e = .returned (T) ∧ Kd.U (Kd.int .u8) 5 w' w.heap.size (fun _ => True) T r ∧ Below w.heap.size w w' := by
 have HB := bR w
 have H := h
 unfold xB.f at H
 clear h
 by_cases c2 : a0.size ≤ 140737488355328
 ·rw [if_pos c2] at H
  have a8 := eq_true c2
  have a9 := decide_eq_true c2
  clear c2
  obtain ⟨x, hy_⟩ : ∃ y_ : List Int, y_ = (bytesOf a0) := ⟨_, rfl⟩
  replace H : (xB.l0 k x (x.length : Int) 0) = some r := rh
  have z := aE hy_
  clear hy_
  have H' := aE H
  clear H
  go_enter Tryz.func40, Tryz.ntmps40
  go_wp2_with (first | ((with_reducible refine gd 6 rfl ?_); refine Kd.U_conv _ 5 rfl (N := 6) rfl 9 22 rfl rfl (dt : a0.size ≤ 140737488355328) Tryz.underlying9 Tryz.underlying22 Tryz.underlying5 (ok := fun _ => True) (okp := fun _ => True) (fun _ hk => hk) trivial (Below.refl _ _) (Nat.le_refl _) ?_; intro b0 w3 B hb hg_ hnew_; clear hg_ hnew_; (first | rw [← z.out] at B | (simp only [Int.reduceToNat] at B; rw [← z.out] at B)); have n_ := aC (Kd.kD B bz) (aE (bs hb)); clear HB; obtain ⟨D, HB⟩ := n_; clear hb B; obtain ⟨a4, X, a5⟩ := Kd.U_slice D.out; subst a5))
  go_loopg [9] k (fun kq v9 w' => ∃ (j : List Int) (d : Int), v9 = .int .i64 d ∧ Aside0 (xB.l0 kq j (x.length : Int) d = some r) ∧ Aside0 (kq ≤ k) ∧ Aside0 (Kd.U (Kd.int .u8) 5 w' w.heap.size (fun _ => True) (.slice a4 x.length X) j) ∧ Aside0 (Below w.heap.size w w'))
  case atStart => exact ⟨(x), (0), rq, H', ⟨Nat.le_refl _⟩, ⟨by (with_reducible repeat (first | apply Kd.zJ | apply Kd.zH | apply Kd.z5)); exact D.out⟩, ⟨bl⟩⟩
  case round =>
   clear H'
   obtain ⟨j, d, rfl, HA, Y, s, HB⟩ := hrel
   have u := (Kd.U_reads' s.out).1
   rw [u] at s
   (try simp only [u])
   cases gk with
   | zero => exact absurd HA.out (by simp [xB.l0])
   | succ k1 =>
    have H := HA.out
    clear HA
    simp only [xB.l0] at H
    by_cases c6 : d < (x.length : Int)
    ·rw [if_pos c6] at H
     have E := decide_eq_true c6
     (try (have q := E; simp only [u] at q))
     clear c6
     by_cases c7 : 0 ≤ d
     ·rw [if_pos c7] at H
      have b1 := decide_eq_true c7
      clear c7
      by_cases c8 : d < (j.length : Int)
      ·rw [if_pos c8] at H
       have Z := decide_eq_true c8
       (try (have y := Z; simp only [u] at y))
       clear c8
       obtain ⟨G, hy_⟩ : ∃ y_ : List Int, y_ = (j.set (d : Int).toNat (((rd j d) - 48) % 256)) := ⟨_, rfl⟩
       replace H : (xB.l0 k1 G (x.length : Int) (wrap64 (d + 1))) = some r := rh
       have M := aE hy_
       clear hy_
       have H' := aE H
       clear H
       have I : 0 ≤ (d : Int) := dt
       have J : d < (j.length : Int) := dt
       obtain ⟨a6, a1, L⟩ := Kd.yc (Kd.U_reads' s.out).2.2 d I J
       cases a1
       replace I := eq_true I
       replace J := eq_true J
       have p9 : 0 ≤ (d : Int) := dt
       have q9 : (d : Int) < ((j.length : Int) : Int) := dt
       obtain ⟨go9, b2, a2, a3, gl9, cl9, HG9⟩ := Kd.U_form s.out (by omega)
       (first | cases a2 | (injection a2 with ea_ en_ ec_; (first | subst ea_ | (injection ea_ with ea_; subst ea_)); subst ec_; clear en_))
       have GB9 := aE a3
       have GG9 := aE HG9
       clear a3 gl9 HG9
       (first | simp only [add_plain] at L | skip)
       obtain ⟨a7, hf9_0⟩ := Kd.U_celln 0 s.out (d : Int) p9 q9
       replace p9 := eq_true p9
       replace q9 := eq_true q9
       have HP10 := Kd.U_putg s.out (d : Int) (((rd j d) - 48) % 256)
       go_wp2_with (first | ((with_reducible refine zM (t := 5) (p := 17) rfl ?_); refine zz (t := 5) (p := 17) (v := ?vo_w11) (w1 := (wr.setCell ⟨go9, (d : Int).toNat, none⟩ (.int .u8 (((rd j d) - 48) % 256)))) ?hg ?ho ?hn ?hr ?_; (case ho => rfl); (case hg => rfl); (case hn => rfl); (case hr => first | (go_simp; done) | (go_simp; rfl)); intro O hw; have hg : wr.grownBy O (some go9) := (by rw [hw]; exact HP10.2); have hp_ : Kd.U (Kd.int .u8) 5 O w.heap.size (fun _ => True) (.slice (some ⟨go9, 0, none⟩) j.length X) G := (by rw [hw, M.out]; exact HP10.1); clear HP10; have n_ := aC hp_ (aE ((by rw [hw]; exact vW (HB.out) GB9.out : Below w.heap.size w O))); clear s HB; obtain ⟨s, HB⟩ := n_; clear hg hw hp_))
       (try simp only [← u])
       go_roundg k1
       case measure => have := Y.out; omega
       case rel => exact ⟨(G), (wrap64 (d + 1)), rq, H', ⟨by have := Y.out; omega⟩, ⟨by (try simp only [u]); (with_reducible repeat (first | apply Kd.zJ | apply Kd.zH | apply Kd.z5)); exact s.out⟩, ⟨bl⟩⟩
      ·rw [if_neg c8] at H
       exact nB H
     ·rw [if_neg c7] at H
      exact nB H
    ·rw [if_neg c6] at H
     have E := decide_eq_false c6
     (try (have q := E; simp only [u] at q))
     clear c6
     obtain rfl := Option.some.inj H
     go_wp2
     go_ret
     exact ⟨_, re, by (with_reducible repeat (first | apply Kd.zJ | apply Kd.zH | apply Kd.z5)); exact s.out, bl⟩
 ·rw [if_neg c2] at H
  exact nB H
def zn.f  : Option (List ByteArray) := some (([(⟨#[48, 48, 48, 48, 48, 49, 48]⟩ : ByteArray), (⟨#[48, 48, 48, 48, 49, 48]⟩ : ByteArray), (⟨#[48, 49, 48]⟩ : ByteArray), (⟨#[49]⟩ : ByteArray), (⟨#[48, 49, 49]⟩ : ByteArray), (⟨#[48, 48, 48, 48, 49, 49]⟩ : ByteArray), (⟨#[48, 48, 48, 48, 48, 49, 49]⟩ : ByteArray)] : List ByteArray))
theorem zn.calls  (r : List ByteArray) (w : World) (h : zn.f  = some r) :
  Calls Tryz.prog 41 #[] w fun e w' => ∃ q : Value, e = .returned (q) ∧ Kd.R Kd.string 9 w' w.heap.size (fun _ => True) q r ∧ Below w.heap.size w w' := by
 have HB := bR w
 have H := h
 unfold zn.f at H
 clear h
 obtain ⟨s, hy_⟩ : ∃ y_ : List ByteArray, y_ = (([(⟨#[48, 48, 48, 48, 48, 49, 48]⟩ : ByteArray), (⟨#[48, 48, 48, 48, 49, 48]⟩ : ByteArray), (⟨#[48, 49, 48]⟩ : ByteArray), (⟨#[49]⟩ : ByteArray), (⟨#[48, 49, 49]⟩ : ByteArray), (⟨#[48, 48, 48, 48, 49, 49]⟩ : ByteArray), (⟨#[48, 48, 48, 48, 48, 49, 49]⟩ : ByteArray)] : List ByteArray)) := ⟨_, rfl⟩
 replace H : (some s) = some r := rh
 have d := aE hy_
 clear hy_
 obtain rfl := Option.some.inj H
 go_enter Tryz.func41, Tryz.ntmps41
 go_wp2_with (first | ((with_reducible refine gd 1 rfl ?_); refine Kd.zZ Kd.string _ 9 ?hg (N := 1) ?hd (xs := ([(⟨#[48, 48, 48, 48, 48, 49, 48]⟩ : ByteArray), (⟨#[48, 48, 48, 48, 49, 48]⟩ : ByteArray), (⟨#[48, 49, 48]⟩ : ByteArray), (⟨#[49]⟩ : ByteArray), (⟨#[48, 49, 49]⟩ : ByteArray), (⟨#[48, 48, 48, 48, 49, 49]⟩ : ByteArray), (⟨#[48, 48, 48, 48, 48, 49, 49]⟩ : ByteArray)] : List ByteArray)) (inner := [.string (⟨#[48, 48, 48, 48, 48, 49, 48]⟩ : ByteArray), .string (⟨#[48, 48, 48, 48, 49, 48]⟩ : ByteArray), .string (⟨#[48, 49, 48]⟩ : ByteArray), .string (⟨#[49]⟩ : ByteArray), .string (⟨#[48, 49, 49]⟩ : ByteArray), .string (⟨#[48, 48, 48, 48, 49, 49]⟩ : ByteArray), .string (⟨#[48, 48, 48, 48, 48, 49, 49]⟩ : ByteArray)]) (ok := fun _ => True) (okp := fun _ => True) ?hr ?hp (fun _ hk => hk) trivial (Below.refl _ _) (Nat.le_refl _) (by simp) ?_; (case hd => rfl); (case hg => rfl); (case hr => first | (go_simp; done) | (go_simp; rfl)); (case hp => exact (xe.one (show Kd.M Kd.string _ _ _ (⟨#[48, 48, 48, 48, 48, 49, 48]⟩ : ByteArray) [.string (⟨#[48, 48, 48, 48, 48, 49, 48]⟩ : ByteArray)] from rfl) (xe.one (show Kd.M Kd.string _ _ _ (⟨#[48, 48, 48, 48, 49, 48]⟩ : ByteArray) [.string (⟨#[48, 48, 48, 48, 49, 48]⟩ : ByteArray)] from rfl) (xe.one (show Kd.M Kd.string _ _ _ (⟨#[48, 49, 48]⟩ : ByteArray) [.string (⟨#[48, 49, 48]⟩ : ByteArray)] from rfl) (xe.one (show Kd.M Kd.string _ _ _ (⟨#[49]⟩ : ByteArray) [.string (⟨#[49]⟩ : ByteArray)] from rfl) (xe.one (show Kd.M Kd.string _ _ _ (⟨#[48, 49, 49]⟩ : ByteArray) [.string (⟨#[48, 49, 49]⟩ : ByteArray)] from rfl) (xe.one (show Kd.M Kd.string _ _ _ (⟨#[48, 48, 48, 48, 49, 49]⟩ : ByteArray) [.string (⟨#[48, 48, 48, 48, 49, 49]⟩ : ByteArray)] from rfl) (xe.one (show Kd.M Kd.string _ _ _ (⟨#[48, 48, 48, 48, 48, 49, 49]⟩ : ByteArray) [.string (⟨#[48, 48, 48, 48, 48, 49, 49]⟩ : ByteArray)] from rfl) (xe.none _ _))))))))); intro t w1 j hb hg_ hnew_; clear hg_ hnew_; (first | rw [← d.out] at j | (simp only [Int.reduceToNat] at j; rw [← d.out] at j)); have n_ := aC (Kd.vS j bz) (aE (bs hb)); clear HB; obtain ⟨k, HB⟩ := n_; clear hb j))
 go_ret
 exact ⟨_, re, rU k.out, bl⟩
end Go.Proofs.YtknclbodinfbeaaGreatDoor.PRunsBack
