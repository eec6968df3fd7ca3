-- printed (wip/tools/myprint.py)
import Derived.Test.YtknclbodinfbeaaDoorPRunsSamex0
namespace Go.Proofs.YtknclbodinfbeaaDoor.PRunsSame
open Go.RowKit Go.Proofs.YtknclbodinfbeaaDoorW.PrintWords Go.Proofs.YtknclbodinfbeaaDoorW.PrintLast Go.Proofs.YtknclbodinfbeaaDoorW.PrintMore
attribute [local go_sem] yf yc yD yE xV xU ye yh
set_option linter.unusedVariables false
set_option linter.unusedSimpArgs false
def wV.l0 : Nat → List Int → List Int → Int → Int → Option (List Int × Int)
 | 0, _, _, _, _ => none
 | k + 1, x4, x12, x13, x14 => if x14 < x13 then (if 0 ≤ x14 then (if x14 < (x12.length : Int) then (if (rd x12 x14) > 1 then (some (([] : List Int), 2)) else (if 0 ≤ (wrap64 (Int.tdiv x14 8)) then (if (wrap64 (Int.tdiv x14 8)) < (x4.length : Int) then (if 0 ≤ (wrap64 (7 - (Int.tmod x14 8))) then (wV.l0 k (x4.set ((wrap64 (Int.tdiv x14 8)) : Int).toNat (Go.bits .or .u8 (rd x4 (wrap64 (Int.tdiv x14 8))) (shl .u8 (rd x12 x14) (wrap64 (7 - (Int.tmod x14 8)))))) x12 x13 (wrap64 (x14 + 1))) else (none)) else (none)) else (none))) else (none)) else (none)) else (some (x4, 0))
def wV.f (k : Nat) (l0 : List Int) : Option (List Int × Int) := if 0 ≤ (wrap64 (Int.tdiv (wrap64 ((l0.length : Int) + 7)) 8)) then (if (wrap64 (Int.tdiv (wrap64 ((l0.length : Int) + 7)) 8) : Int).toNat ≤ 281474976710656 then (wV.l0 k (List.replicate (wrap64 (Int.tdiv (wrap64 ((l0.length : Int) + 7)) 8) : Int).toNat 0) l0 (l0.length : Int) 0) else (none)) else (none)
theorem wV.wj : ∀ k, (∀ y0 y1 y2 y3, vP (wV.l0 k y0 y1 y2 y3) (wV.l0 (k + 1) y0 y1 y2 y3))
 | 0 => fun _ _ _ _ r h => by simp [wV.l0] at h
 | k + 1 => by
  have ih0 := wV.wj k
  ·intro y0 y1 y2 y3
   unfold wV.l0
   repeat' first
   | (with_reducible exact ih0 _ _ _ _)
   | (with_reducible first | exact vP.refl _ | exact vP.none _ | apply vP.ite | refine vP.bind ?_ fun _ => ?_)
theorem wV.mono : ∀ a0 k, vP (wV.f k a0) (wV.f (k + 1) a0) := by
 intro a0 k
 have ih0 := wV.wj k
 unfold wV.f
 repeat' first
   | (with_reducible exact ih0 _ _ _ _)
   | (with_reducible first | exact vP.refl _ | exact vP.none _ | apply vP.ite | refine vP.bind ?_ fun _ => ?_)
def wV.T7 : Bool × List (List Nat × List Nat) := (true, [([], []), ([], []), ([1], [1]), ([0, 2], [0, 2]), ([3], [3]), ([], []), ([], []), ([6], [6]), ([7], [7]), ([5, 8], [5, 8]), ([4, 9], [4, 9]), ([0, 2, 0, 1, 2, 3, 4, 5, 6, 7, 8, 9, 10], [0, 2]), ([11, 10, 0, 1, 2, 3, 4, 5, 6, 7, 8, 9, 10], [10, 11])])
def wV.B7 : List Nat := [0, 0, 2, 7, 15, 0, 0, 64, 192, 480, 1023, 2047, 4095]
theorem wV.tab7 : yN .any (opsOf Tryd.f49 7) = wV.T7 := by kernel_rfl
theorem wV.bits7 : yi wV.T7.2 wV.B7 = true := by kernel_rfl
set_option maxHeartbeats 8000000 in
set_option maxRecDepth 100000 in
theorem wV.calls (k : Nat) (A0 : Option Addr) (c0 : Nat) (l0 : List Int) (r1 : List Int) (r2 : Int) (w : World) (hr0 : Kd.C (Kd.int .u8) w A0 l0.length l0) (hc0 : l0.length ≤ c0) (h : wV.f k l0 = some (r1, r2)) :
  Calls Tryd.prog 49 #[.slice A0 l0.length c0] w fun e w' => ∃ v0_ : Value, e = .returned (.tuple #[v0_, .int .i64 r2]) ∧ Kd.R (Kd.int .u8) 5 w' w.heap.size (fun _ => True) v0_ r1 ∧ Below w.heap.size w w' := by
 have HR0 := Aside0.mk hr0
 have HC0 := Aside0.mk hc0
 clear hr0 hc0
 have HB := Aside0.mk (Below.refl w.heap.size w)
 have H := h
 unfold wV.f at H
 clear h
 obtain ⟨ji2, hji2⟩ : ∃ j_ : Int, (wrap64 (Int.tdiv (wrap64 ((l0.length : Int) + 7)) 8)) = j_ := ⟨_, rfl⟩
 replace H : (if 0 ≤ (ji2) then (if (ji2 : Int).toNat ≤ 281474976710656 then (wV.l0 k (List.replicate (ji2 : Int).toNat 0) l0 (l0.length : Int) 0) else (none)) else (none)) = some (r1, r2) := by first | (rw [hji2] at H; exact H) | (simp only [hji2] at H ⊢; exact H)
 have hji2w : (IntKind.i64.wrap (Int.tdiv (wrap64 ((l0.length : Int) + 7)) 8)) = ji2 := (xD _).trans hji2
 by_cases c3 : 0 ≤ (ji2)
 ·rw [if_pos c3] at H
  have c3b0 := eq_true c3
  have c3b1 := decide_eq_true c3
  clear c3
  by_cases c4 : (ji2 : Int).toNat ≤ 281474976710656
  ·rw [if_pos c4] at H
   have c4b0 := eq_true c4
   have c4b1 := decide_eq_true c4
   clear c4
   obtain ⟨y284, hy_⟩ : ∃ y_ : List Int, y_ = (List.replicate (ji2 : Int).toNat 0) := ⟨_, rfl⟩
   replace H : (wV.l0 k y284 l0 (l0.length : Int) 0) = some (r1, r2) := rh
   have Ny284 := aE hy_
   clear hy_
   have H' := Aside0.mk H
   clear H
   go_enter Tryd.func49, Tryd.ntmps49
   go_wp2_with (first | ((with_reducible refine gd 11 rfl ?_); refine Kd.jF (Kd.int .u8) _ 5 rfl (N := 11) rfl 22 _ _ rfl ji2 rfl rfl Tryd.underlying22 (.int .u8 0) 1 info5 rfl (by decide) (by omega) 0 (ok := fun _ => True) (okp := fun _ => True) rfl (fun _ hk => hk) trivial (dt) (Nat.le_trans (Nat.mul_le_mul_right _ (dt : ji2.toNat ≤ 281474976710656)) (by omega)) (Below.refl _ _) (Nat.le_refl _) ?_; intro v285 w5 ho6 hb hg_ hnew_; clear hg_ hnew_; (first | rw [← Ny284.out] at ho6 | (simp only [Int.reduceToNat] at ho6; rw [← Ny284.out] at ho6)); have n_ := aC (Kd.vX ho6 bz) (aE (bs hb)); clear HB; obtain ⟨HO286, HB⟩ := n_; clear hb ho6))
   go_loopg [14] k (fun kq v14 w' => ∃ (x4_1 : List Int) (x14_1 : Int), v14 = .int .i64 x14_1 ∧ Aside0 (wV.l0 kq x4_1 l0 (l0.length : Int) x14_1 = some (r1, r2)) ∧ Aside0 (kq ≤ k) ∧ Aside0 (Kd.R (Kd.int .u8) 5 w' w.heap.size (fun _ => True) v285 x4_1) ∧ Aside0 (Below w.heap.size w w'))
   case atStart => exact ⟨(y284), (0), rq, H', ⟨Nat.le_refl _⟩, ⟨rU HO286.out⟩, ⟨bl⟩⟩
   case round =>
    clear H'
    obtain ⟨x4_1, x14_1, rfl, HA, HK1, HO_4, HB⟩ := hrel
    cases gk with
    | zero => exact absurd HA.out (by simp [wV.l0])
    | succ k1 =>
     have H := HA.out
     clear HA
     simp only [wV.l0] at H
     rcases iL H with H1 | H1 <;> clear H <;> obtain ⟨H, c7b0⟩ := H1
     ·by_cases c8 : 0 ≤ x14_1
      ·rw [if_pos c8] at H
       have c8b0 := decide_eq_true c8
       clear c8
       by_cases c9 : x14_1 < (l0.length : Int)
       ·rw [if_pos c9] at H
        have c9b0 := decide_eq_true c9
        clear c9
        rcases iL H with H1 | H1 <;> clear H <;> obtain ⟨H, c10b0⟩ := H1
        ·simp only [Option.some.injEq, Prod.mk.injEq] at H
         obtain ⟨rfl, rfl⟩ := H
         have p287 : 0 ≤ (x14_1 : Int) := dt
         have q287 : x14_1 < (l0.length : Int) := dt
         obtain ⟨ad287, e287, hx287_0⟩ := Kd.xL HR0.out x14_1 p287 q287
         cases e287
         replace hx287_0 := hcB HB.out hx287_0
         replace p287 := eq_true p287
         replace q287 := eq_true q287
         go_wp2
         go_ret2
         exact ⟨_, by first | rfl | (simp [wL, wK] <;> rfl) | (simp only [← hji2]; first | rfl | (simp [wL, wK] <;> rfl)) | (simp [*, wL, wK] <;> rfl), by first | exact Kd.yC _ _ _ _ _ | exact Kd.za _ _ _ _ _ | exact Kd.y9 _ _ _ _ _ | exact Kd.zb _ _ _ _ _ | exact Kd.yZ _ _ _ _ _, bl⟩
        ·obtain ⟨ji11, hji11⟩ : ∃ j_ : Int, (wrap64 (Int.tdiv x14_1 8)) = j_ := ⟨_, rfl⟩
         replace H : (if 0 ≤ (ji11) then (if (ji11) < (x4_1.length : Int) then (if 0 ≤ (wrap64 (7 - (Int.tmod x14_1 8))) then (wV.l0 k1 (x4_1.set ((ji11) : Int).toNat (Go.bits .or .u8 (rd x4_1 (ji11)) (shl .u8 (rd l0 x14_1) (wrap64 (7 - (Int.tmod x14_1 8)))))) l0 (l0.length : Int) (wrap64 (x14_1 + 1))) else (none)) else (none)) else (none)) = some (r1, r2) := by first | (rw [hji11] at H; exact H) | (simp only [hji11] at H ⊢; exact H)
         have hji11w : (IntKind.i64.wrap (Int.tdiv x14_1 8)) = ji11 := (xD _).trans hji11
         by_cases c12 : 0 ≤ (ji11)
         ·rw [if_pos c12] at H
          have c12b0 := decide_eq_true c12
          clear c12
          by_cases c13 : (ji11) < (x4_1.length : Int)
          ·rw [if_pos c13] at H
           have c13b0 := decide_eq_true c13
           clear c13
           obtain ⟨ji14, hji14⟩ : ∃ j_ : Int, (wrap64 (7 - (Int.tmod x14_1 8))) = j_ := ⟨_, rfl⟩
           replace H : (if 0 ≤ (ji14) then (wV.l0 k1 (x4_1.set ((ji11) : Int).toNat (Go.bits .or .u8 (rd x4_1 (ji11)) (shl .u8 (rd l0 x14_1) (ji14)))) l0 (l0.length : Int) (wrap64 (x14_1 + 1))) else (none)) = some (r1, r2) := by first | (rw [hji14] at H; exact H) | (simp only [hji14] at H ⊢; exact H)
           have hji14w : (IntKind.i64.wrap (7 - (Int.tmod x14_1 8))) = ji14 := (xD _).trans hji14
           by_cases c15 : 0 ≤ (ji14)
           ·rw [if_pos c15] at H
            have c15b0 := eq_true c15
            have c15b1 := decide_eq_true c15
            clear c15
            obtain ⟨ji16, hji16⟩ : ∃ j_ : Int, (shl .u8 (rd l0 x14_1) (ji14)) = j_ := ⟨_, rfl⟩
            replace H : (wV.l0 k1 (x4_1.set ((ji11) : Int).toNat (Go.bits .or .u8 (rd x4_1 (ji11)) (ji16))) l0 (l0.length : Int) (wrap64 (x14_1 + 1))) = some (r1, r2) := by first | (rw [hji16] at H; exact H) | (simp only [hji16] at H ⊢; exact H)
            have hji16_ : (IntKind.u8.wrap ((rd l0 x14_1) * 2 ^ min (ji14).toNat 8)) = ji16 := hji16
            have hji16z : (ji14) ≤ 8 → (IntKind.u8.wrap ((rd l0 x14_1) * 2 ^ (ji14).toNat)) = ji16 := zv hji16
            obtain ⟨y289, hy_⟩ : ∃ y_ : List Int, y_ = (x4_1.set ((ji11) : Int).toNat (Go.bits .or .u8 (rd x4_1 (ji11)) (ji16))) := ⟨_, rfl⟩
            replace H : (wV.l0 k1 y289 l0 (l0.length : Int) (wrap64 (x14_1 + 1))) = some (r1, r2) := rh
            have Ny289 := aE hy_
            clear hy_
            have H' := Aside0.mk H
            clear H
            have p287 : 0 ≤ (x14_1 : Int) := dt
            have q287 : x14_1 < (l0.length : Int) := dt
            obtain ⟨ad287, e287, hx287_0⟩ := Kd.xL HR0.out x14_1 p287 q287
            cases e287
            replace hx287_0 := hcB HB.out hx287_0
            replace p287 := eq_true p287
            replace q287 := eq_true q287
            try go_wp2
            have n_ := aC (Kd.jG HO_4.out) (aE (vG HB.out))
            clear HO_4 HB
            obtain ⟨HO_4, HB⟩ := n_
            obtain ⟨Ao19, co19, eo19⟩ := Kd.wq HO_4.out
            (first | subst eo19 | (injection eo19 with f1_ f2_ f3_; have f4_ := f1_.symm; have f5_ := f3_.symm; clear f1_ f2_ f3_; subst f4_; subst f5_))
            have p288 : 0 ≤ ((ji11) : Int) := dt
            have q288 : (ji11) < (x4_1.length : Int) := dt
            obtain ⟨ad288, e288, hx288_0⟩ := Kd.xL (Kd.R_reads' HO_4.out).2.2 (ji11) p288 q288
            cases e288
            replace p288 := eq_true p288
            replace q288 := eq_true q288
            have p17 : 0 ≤ ((ji11) : Int) := dt
            have q17 : ((ji11) : Int) < ((x4_1.length : Int) : Int) := dt
            obtain ⟨go17, co17, eo17, gb17, gl17, cl17, HG17⟩ := Kd.R_form HO_4.out (by omega)
            (first | cases eo17 | (injection eo17 with ea_ en_ ec_; (first | subst ea_ | (injection ea_ with ea_; subst ea_)); subst ec_; clear en_))
            have GB17 := Aside0.mk gb17
            have GG17 := Aside0.mk HG17
            clear gb17 gl17 HG17
            (first | simp only [add_plain] at hx288_0 | skip)
            obtain ⟨hx17_0, hf17_0⟩ := Kd.R_celln 0 HO_4.out ((ji11) : Int) p17 q17
            replace p17 := eq_true p17
            replace q17 := eq_true q17
            have HP20 := Kd.R_putn HO_4.out ((ji11) : Int) (Go.bits .or .u8 (rd x4_1 (ji11)) (ji16))
            rw [← Ny289.out] at HP20
            have HQ20 := Aside0.mk HP20
            clear HP20
            refine st 13 (fun w' => w'.cell? ⟨go17, ((ji11)).toNat, none⟩ = some (.int .u8 (rd x4_1 (ji11)))) [12] (bv 13 0) wV.tab7 wV.bits7 (hx288_0) (fun hHeld HT_ HW_ => ?_)
            generalize wr.drew = w18 at HO_4 HB GG17 HQ20 hf17_0 hx17_0 hx288_0 hHeld ⊢
            refine pu 0 21 (bv 13 1) HT_ rfl rfl ?_
            refine pu 1 22 (bv 13 3) HT_ rfl rfl ?_
            refine pu 2 23 (bv 13 7) HT_ rfl rfl ?_
            refine pu 3 24 (bv 13 15) HT_ rfl rfl ?_
            refine pu 5 26 (bv 13 47) HT_ rfl rfl ?_
            refine pu 6 27 (bv 13 111) HT_ rfl rfl ?_
            refine pu 7 28 (bv 13 239) HT_ rfl rfl ?_
            refine pu 8 29 (bv 13 495) HT_ rfl rfl ?_
            refine pu 9 30 (bv 13 1007) HT_ rfl rfl ?_
            refine take_ (i := 4) (N := some 25) (v := ?_) (a' := ?_) (bv 13 1023) rfl rfl (take_ofW HT_.out HW_.out (by kernel_rfl)) (fun _ _ _ h => h) (Or.inl ⟨by rfl, ?_⟩) hHeld ?_ ?_
            rotate_left
            ·intro w' s0
             go_simp
             with_reducible rfl
            rotate_left
            ·simp only [Act.put, List.setIfInBounds_toArray, List.set_cons_zero, List.set_cons_succ, xD, zm]
             rfl
            refine pu 10 31 (bv 13 2047) HT_ rfl rfl ?_
            refine pu 11 32 (bv 13 4095) HT_ rfl rfl ?_
            refine last_ (i := 12) (N := none) (bv 13 8191) rfl rfl (xq HT_.out (by kernel_rfl)) (by decide) (fun K hK => ?_)
            refine skip_ (w1 := ?_) (by rfl) rfl ?_ ?_
            rotate_left
            ·go_simp
             rfl
            refine hK.out _ _ ?_
            clear hK K
            refine yO (xS HT_.out (by kernel_rfl)) ?_
            try go_wp2
            go_roundg k1
            case measure => have := HK1.out; omega
            case rel => exact ⟨(y289), (wrap64 (x14_1 + 1)), rq, H', ⟨by have := HK1.out; omega⟩, ⟨by (with_reducible repeat (first | apply Kd.R_alloc | apply Kd.kX | apply Kd.jG)); exact HQ20.out⟩, ⟨by repeat (first | (with_reducible first | exact HB.out | apply vZ | apply vM | apply vG | refine wk ?_ GB17.out) | exact HB.out)⟩⟩
           ·rw [if_neg c15] at H
            exact absurd H (by simp)
          ·rw [if_neg c13] at H
           exact absurd H (by simp)
         ·rw [if_neg c12] at H
          exact absurd H (by simp)
       ·rw [if_neg c9] at H
        exact absurd H (by simp)
      ·rw [if_neg c8] at H
       exact absurd H (by simp)
     ·simp only [Option.some.injEq, Prod.mk.injEq] at H
      obtain ⟨rfl, rfl⟩ := H
      go_wp2
      go_ret2
      exact ⟨_, by first | rfl | (simp [wL, wK] <;> rfl) | (simp only [← hji2]; first | rfl | (simp [wL, wK] <;> rfl)) | (simp [*, wL, wK] <;> rfl), rU HO_4.out, bl⟩
  ·rw [if_neg c4] at H
   exact absurd H (by simp)
 ·rw [if_neg c3] at H
  exact absurd H (by simp)
def xo.l0 : Nat → List Int → Int → Int → Option (List Int)
 | 0, _, _, _ => none
 | k + 1, x3, x8, x9 => if x9 < x8 then (if 0 ≤ x9 then (if x9 < (x3.length : Int) then (xo.l0 k (x3.set (x9 : Int).toNat (((rd x3 x9) - 48) % 256)) x8 (wrap64 (x9 + 1))) else (none)) else (none)) else (some x3)
def xo.f (k : Nat) (a0 : ByteArray) : Option (List Int) := if a0.size ≤ 140737488355328 then ((some (bytesOf a0 : List Int)).bind fun y290 => (xo.l0 k y290 (y290.length : Int) 0)) else (none)
theorem xo.wj : ∀ k, (∀ y0 y1 y2, vP (xo.l0 k y0 y1 y2) (xo.l0 (k + 1) y0 y1 y2))
 | 0 => fun _ _ _ r h => by simp [xo.l0] at h
 | k + 1 => by
  have ih0 := xo.wj k
  ·intro y0 y1 y2
   unfold xo.l0
   repeat' first
   | (with_reducible exact ih0 _ _ _)
   | (with_reducible first | exact vP.refl _ | exact vP.none _ | apply vP.ite | refine vP.bind ?_ fun _ => ?_)
theorem xo.mono : ∀ a0 k, vP (xo.f k a0) (xo.f (k + 1) a0) := by
 intro a0 k
 have ih0 := xo.wj k
 unfold xo.f
 repeat' first
   | (with_reducible exact ih0 _ _ _)
   | (with_reducible first | exact vP.refl _ | exact vP.none _ | apply vP.ite | refine vP.bind ?_ fun _ => ?_)
set_option maxHeartbeats 8000000 in
set_option maxRecDepth 100000 in
theorem xo.calls (k : Nat) (a0 : ByteArray) (r : List Int) (w : World) (h : xo.f k a0 = some r) :
  Calls Tryd.prog 76 #[.string a0] w fun e w' => ∃ v0_ : Value, e = .returned (v0_) ∧ Kd.U (Kd.int .u8) 5 w' w.heap.size (fun _ => True) v0_ r ∧ Below w.heap.size w w' := by
 have HB := Aside0.mk (Below.refl w.heap.size w)
 have H := h
 unfold xo.f at H
 clear h
 by_cases c2 : a0.size ≤ 140737488355328
 ·rw [if_pos c2] at H
  have c2b0 := eq_true c2
  have c2b1 := decide_eq_true c2
  clear c2
  obtain ⟨y290, hy_⟩ : ∃ y_ : List Int, y_ = (bytesOf a0) := ⟨_, rfl⟩
  replace H : (xo.l0 k y290 (y290.length : Int) 0) = some r := rh
  have Ny290 := aE hy_
  clear hy_
  have H' := Aside0.mk H
  clear H
  go_enter Tryd.func76, Tryd.ntmps76
  go_wp2_with (first | ((with_reducible refine gd 6 rfl ?_); refine Kd.U_conv _ 5 rfl (N := 6) rfl 9 22 rfl rfl (dt : a0.size ≤ 140737488355328) Tryd.underlying9 Tryd.underlying22 Tryd.underlying5 (ok := fun _ => True) (okp := fun _ => True) (fun _ hk => hk) trivial (Below.refl _ _) (Nat.le_refl _) ?_; intro v291 w3 ho4 hb hg_ hnew_; clear hg_ hnew_; (first | rw [← Ny290.out] at ho4 | (simp only [Int.reduceToNat] at ho4; rw [← Ny290.out] at ho4)); have n_ := aC (Kd.j4 ho4 bz) (aE (bs hb)); clear HB; obtain ⟨HO292, HB⟩ := n_; clear hb ho4; obtain ⟨Ao5, co5, eo5⟩ := Kd.U_slice HO292.out; subst eo5))
  go_loopg [9] k (fun kq v9 w' => ∃ (x3_1 : List Int) (x9_1 : Int), v9 = .int .i64 x9_1 ∧ Aside0 (xo.l0 kq x3_1 (y290.length : Int) x9_1 = some r) ∧ Aside0 (kq ≤ k) ∧ Aside0 (Kd.U (Kd.int .u8) 5 w' w.heap.size (fun _ => True) (.slice Ao5 y290.length co5) x3_1) ∧ Aside0 (Below w.heap.size w w'))
  case atStart => exact ⟨(y290), (0), rq, H', ⟨Nat.le_refl _⟩, ⟨by (with_reducible repeat (first | apply Kd.zl | apply Kd.zj | apply Kd.zG)); exact HO292.out⟩, ⟨bl⟩⟩
  case round =>
   clear H'
   obtain ⟨x3_1, x9_1, rfl, HA, HK1, HO_3, HB⟩ := hrel
   have hl3_1 := (Kd.U_reads' HO_3.out).1
   rw [hl3_1] at HO_3
   (try simp only [hl3_1])
   cases gk with
   | zero => exact absurd HA.out (by simp [xo.l0])
   | succ k1 =>
    have H := HA.out
    clear HA
    simp only [xo.l0] at H
    by_cases c6 : x9_1 < (y290.length : Int)
    ·rw [if_pos c6] at H
     have c6b0 := decide_eq_true c6
     (try (have c6b0_hl3_1 := c6b0; simp only [hl3_1] at c6b0_hl3_1))
     clear c6
     by_cases c7 : 0 ≤ x9_1
     ·rw [if_pos c7] at H
      have c7b0 := decide_eq_true c7
      clear c7
      by_cases c8 : x9_1 < (x3_1.length : Int)
      ·rw [if_pos c8] at H
       have c8b0 := decide_eq_true c8
       (try (have c8b0_hl3_1 := c8b0; simp only [hl3_1] at c8b0_hl3_1))
       clear c8
       obtain ⟨y294, hy_⟩ : ∃ y_ : List Int, y_ = (x3_1.set (x9_1 : Int).toNat (((rd x3_1 x9_1) - 48) % 256)) := ⟨_, rfl⟩
       replace H : (xo.l0 k1 y294 (y290.length : Int) (wrap64 (x9_1 + 1))) = some r := rh
       have Ny294 := aE hy_
       clear hy_
       have H' := Aside0.mk H
       clear H
       have p293 : 0 ≤ (x9_1 : Int) := dt
       have q293 : x9_1 < (x3_1.length : Int) := dt
       obtain ⟨ad293, e293, hx293_0⟩ := Kd.xL (Kd.U_reads' HO_3.out).2.2 x9_1 p293 q293
       cases e293
       replace p293 := eq_true p293
       replace q293 := eq_true q293
       have p9 : 0 ≤ (x9_1 : Int) := dt
       have q9 : (x9_1 : Int) < ((x3_1.length : Int) : Int) := dt
       obtain ⟨go9, co9, eo9, gb9, gl9, cl9, HG9⟩ := Kd.U_form HO_3.out (by omega)
       (first | cases eo9 | (injection eo9 with ea_ en_ ec_; (first | subst ea_ | (injection ea_ with ea_; subst ea_)); subst ec_; clear en_))
       have GB9 := Aside0.mk gb9
       have GG9 := Aside0.mk HG9
       clear gb9 gl9 HG9
       (first | simp only [add_plain] at hx293_0 | skip)
       obtain ⟨hx9_0, hf9_0⟩ := Kd.U_celln 0 HO_3.out (x9_1 : Int) p9 q9
       replace p9 := eq_true p9
       replace q9 := eq_true q9
       have HP10 := Kd.U_putg HO_3.out (x9_1 : Int) (((rd x3_1 x9_1) - 48) % 256)
       go_wp2_with (first | ((with_reducible refine zp (t := 5) (p := 17) rfl ?_); refine yY (t := 5) (p := 17) (v := ?vo_w11) (w1 := (wr.setCell ⟨go9, (x9_1 : Int).toNat, none⟩ (.int .u8 (((rd x3_1 x9_1) - 48) % 256)))) ?hg ?ho ?hn ?hr ?_; (case ho => rfl); (case hg => rfl); (case hn => rfl); (case hr => first | (go_simp; done) | (go_simp; rfl)); intro w11 hw; have hg : wr.grownBy w11 (some go9) := (by rw [hw]; exact HP10.2); have hp_ : Kd.U (Kd.int .u8) 5 w11 w.heap.size (fun _ => True) (.slice (some ⟨go9, 0, none⟩) x3_1.length co5) y294 := (by rw [hw, Ny294.out]; exact HP10.1); clear HP10; have n_ := aC hp_ (aE ((by rw [hw]; exact wk (HB.out) GB9.out : Below w.heap.size w w11))); clear HO_3 HB; obtain ⟨HO_3, HB⟩ := n_; clear hg hw hp_))
       (try simp only [← hl3_1])
       go_roundg k1
       case measure => have := HK1.out; omega
       case rel => exact ⟨(y294), (wrap64 (x9_1 + 1)), rq, H', ⟨by have := HK1.out; omega⟩, ⟨by (try simp only [hl3_1]); (with_reducible repeat (first | apply Kd.zl | apply Kd.zj | apply Kd.zG)); exact HO_3.out⟩, ⟨bl⟩⟩
      ·rw [if_neg c8] at H
       exact absurd H (by simp)
     ·rw [if_neg c7] at H
      exact absurd H (by simp)
    ·rw [if_neg c6] at H
     have c6b0 := decide_eq_false c6
     (try (have c6b0_hl3_1 := c6b0; simp only [hl3_1] at c6b0_hl3_1))
     clear c6
     obtain rfl := Option.some.inj H
     go_wp2
     go_ret
     exact ⟨_, re, by (with_reducible repeat (first | apply Kd.zl | apply Kd.zj | apply Kd.zG)); exact HO_3.out, bl⟩
 ·rw [if_neg c2] at H
  exact absurd H (by simp)
def yQ.f  : Option (List ByteArray) := some (([(⟨#[48, 48, 48, 48, 48, 49, 48]⟩ : ByteArray), (⟨#[48, 48, 48, 48, 49, 48]⟩ : ByteArray), (⟨#[48, 49, 48]⟩ : ByteArray), (⟨#[49]⟩ : ByteArray), (⟨#[48, 49, 49]⟩ : ByteArray), (⟨#[48, 48, 48, 48, 49, 49]⟩ : ByteArray), (⟨#[48, 48, 48, 48, 48, 49, 49]⟩ : ByteArray)] : List ByteArray))
set_option maxHeartbeats 8000000 in
set_option maxRecDepth 100000 in
theorem yQ.calls  (r : List ByteArray) (w : World) (h : yQ.f  = some r) :
  Calls Tryd.prog 77 #[] w fun e w' => ∃ v0_ : Value, e = .returned (v0_) ∧ Kd.R Kd.string 9 w' w.heap.size (fun _ => True) v0_ r ∧ Below w.heap.size w w' := by
 have HB := Aside0.mk (Below.refl w.heap.size w)
 have H := h
 unfold yQ.f at H
 clear h
 obtain ⟨y295, hy_⟩ : ∃ y_ : List ByteArray, y_ = (([(⟨#[48, 48, 48, 48, 48, 49, 48]⟩ : ByteArray), (⟨#[48, 48, 48, 48, 49, 48]⟩ : ByteArray), (⟨#[48, 49, 48]⟩ : ByteArray), (⟨#[49]⟩ : ByteArray), (⟨#[48, 49, 49]⟩ : ByteArray), (⟨#[48, 48, 48, 48, 49, 49]⟩ : ByteArray), (⟨#[48, 48, 48, 48, 48, 49, 49]⟩ : ByteArray)] : List ByteArray)) := ⟨_, rfl⟩
 replace H : (some y295) = some r := rh
 have Ny295 := aE hy_
 clear hy_
 obtain rfl := Option.some.inj H
 go_enter Tryd.func77, Tryd.ntmps77
 go_wp2_with (first | ((with_reducible refine gd 1 rfl ?_); refine Kd.zV Kd.string _ 9 ?hg (N := 1) ?hd (xs := ([(⟨#[48, 48, 48, 48, 48, 49, 48]⟩ : ByteArray), (⟨#[48, 48, 48, 48, 49, 48]⟩ : ByteArray), (⟨#[48, 49, 48]⟩ : ByteArray), (⟨#[49]⟩ : ByteArray), (⟨#[48, 49, 49]⟩ : ByteArray), (⟨#[48, 48, 48, 48, 49, 49]⟩ : ByteArray), (⟨#[48, 48, 48, 48, 48, 49, 49]⟩ : ByteArray)] : List ByteArray)) (inner := [.string (⟨#[48, 48, 48, 48, 48, 49, 48]⟩ : ByteArray), .string (⟨#[48, 48, 48, 48, 49, 48]⟩ : ByteArray), .string (⟨#[48, 49, 48]⟩ : ByteArray), .string (⟨#[49]⟩ : ByteArray), .string (⟨#[48, 49, 49]⟩ : ByteArray), .string (⟨#[48, 48, 48, 48, 49, 49]⟩ : ByteArray), .string (⟨#[48, 48, 48, 48, 48, 49, 49]⟩ : ByteArray)]) (ok := fun _ => True) (okp := fun _ => True) ?hr ?hp (fun _ hk => hk) trivial (Below.refl _ _) (Nat.le_refl _) (by simp) ?_; (case hd => rfl); (case hg => rfl); (case hr => first | (go_simp; done) | (go_simp; rfl)); (case hp => exact (wX.one (show Kd.M Kd.string _ _ _ (⟨#[48, 48, 48, 48, 48, 49, 48]⟩ : ByteArray) [.string (⟨#[48, 48, 48, 48, 48, 49, 48]⟩ : ByteArray)] from rfl) (wX.one (show Kd.M Kd.string _ _ _ (⟨#[48, 48, 48, 48, 49, 48]⟩ : ByteArray) [.string (⟨#[48, 48, 48, 48, 49, 48]⟩ : ByteArray)] from rfl) (wX.one (show Kd.M Kd.string _ _ _ (⟨#[48, 49, 48]⟩ : ByteArray) [.string (⟨#[48, 49, 48]⟩ : ByteArray)] from rfl) (wX.one (show Kd.M Kd.string _ _ _ (⟨#[49]⟩ : ByteArray) [.string (⟨#[49]⟩ : ByteArray)] from rfl) (wX.one (show Kd.M Kd.string _ _ _ (⟨#[48, 49, 49]⟩ : ByteArray) [.string (⟨#[48, 49, 49]⟩ : ByteArray)] from rfl) (wX.one (show Kd.M Kd.string _ _ _ (⟨#[48, 48, 48, 48, 49, 49]⟩ : ByteArray) [.string (⟨#[48, 48, 48, 48, 49, 49]⟩ : ByteArray)] from rfl) (wX.one (show Kd.M Kd.string _ _ _ (⟨#[48, 48, 48, 48, 48, 49, 49]⟩ : ByteArray) [.string (⟨#[48, 48, 48, 48, 48, 49, 49]⟩ : ByteArray)] from rfl) (wX.none _ _))))))))); intro v296 w1 ho2 hb hg_ hnew_; clear hg_ hnew_; (first | rw [← Ny295.out] at ho2 | (simp only [Int.reduceToNat] at ho2; rw [← Ny295.out] at ho2)); have n_ := aC (Kd.vX ho2 bz) (aE (bs hb)); clear HB; obtain ⟨HO297, HB⟩ := n_; clear hb ho2))
 go_ret
 exact ⟨_, re, rU HO297.out, bl⟩
end Go.Proofs.YtknclbodinfbeaaDoor.PRunsSame
