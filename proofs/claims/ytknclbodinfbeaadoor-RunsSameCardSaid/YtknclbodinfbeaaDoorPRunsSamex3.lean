-- printed (wip/tools/myprint.py)
import Derived.Test.YtknclbodinfbeaaDoorPRunsSamex0
import Derived.Test.YtknclbodinfbeaaDoorPRunsSamex1
import Derived.Test.YtknclbodinfbeaaDoorPRunsSamex2
namespace Go.Proofs.YtknclbodinfbeaaDoor.PRunsSame
open Go.RowKit Go.Proofs.YtknclbodinfbeaaDoorW.PrintWords Go.Proofs.YtknclbodinfbeaaDoorW.PrintLast Go.Proofs.YtknclbodinfbeaaDoorW.PrintMore
attribute [local go_sem] yf yc yD yE xV xU ye yh
set_option linter.unusedVariables false
set_option linter.unusedSimpArgs false
def xN.f (k : Nat) (l0 : List (xc)) (l1 : List (zJ)) (a2_0 : Bool) (a2_1 : Int) : Option (List Int × Int) := (xj.f k l0 a2_0 a2_1).bind fun bt147 => (if bt147.1 < 0 then (some (([] : List Int), 5)) else (if 0 ≤ bt147.1 then (if bt147.1 < (l1.length : Int) then ((wM.f k ((xQ l1 bt147.1).f0) ((xQ l1 bt147.1).f1)).bind fun t151 => (if bt147.1 < (l0.length : Int) then ((wM.f k bt147.2 ((vk l0 bt147.1).f1)).bind fun t155 => (if t151.length + t155.length < 140737488355328 then (some ((t151 ++ t155), 0)) else (none))) else (none))) else (none)) else (none)))
theorem xN.mono : ∀ a0 a1 a2 a3 k, vP (xN.f k a0 a1 a2 a3) (xN.f (k + 1) a0 a1 a2 a3) := by
 intro a0 a1 a2 a3 k
 unfold xN.f
 repeat' first
   | (with_reducible exact wM.mono _ _ _)
   | (with_reducible exact xj.mono _ _ _ _)
   | (with_reducible first | exact vP.refl _ | exact vP.none _ | apply vP.ite | refine vP.bind ?_ fun _ => ?_)
def xN.T4 : Bool × List (List Nat × List Nat) := (true, [([], []), ([], []), ([0, 1], [0, 1]), ([2], [2]), ([3], [3]), ([], []), ([], []), ([5, 6], [5, 6]), ([7], [7]), ([8], [8]), ([4, 9], [4, 9]), ([], []), ([], []), ([], []), ([12, 13], [12, 13]), ([14], [14]), ([15], [15]), ([11, 16, 10], [11, 16]), ([10, 17, 17], [10, 17]), ([18, 18, 0, 1, 2, 3, 4, 5, 6, 7, 8, 9, 10, 11, 12, 13, 14, 15, 16, 17, 18], [18]), ([19, 0, 1, 2, 3, 4, 5, 6, 7, 8, 9, 10, 11, 12, 13, 14, 15, 16, 17, 18, 19], [])])
def xN.B4 : List Nat := [0, 0, 3, 7, 15, 0, 0, 96, 224, 480, 1023, 0, 0, 0, 12288, 28672, 61440, 131071, 262143, 524287, 1048575]
theorem xN.tab4 : yN .any (opsOf Tryd.f87 4) = xN.T4 := by kernel_rfl
theorem xN.bits4 : yi xN.T4.2 xN.B4 = true := by kernel_rfl
set_option maxHeartbeats 8000000 in
set_option maxRecDepth 100000 in
theorem xN.calls (k : Nat) (A0 : Option Addr) (c0 : Nat) (l0 : List (xc)) (A1 : Option Addr) (c1 : Nat) (l1 : List (zJ)) (a2_0 : Bool) (a2_1 : Int) (r1 : List Int) (r2 : Int) (w : World) (hr0 : Kd.C zh w A0 l0.length l0) (hc0 : l0.length ≤ c0) (hr1 : Kd.C jt w A1 l1.length l1) (hc1 : l1.length ≤ c1) (h : xN.f k l0 l1 a2_0 a2_1 = some (r1, r2)) :
  Calls Tryd.prog 87 #[.slice A0 l0.length c0, .slice A1 l1.length c1, .agg #[.bool a2_0, .int .i64 a2_1]] w fun e w' => ∃ v0_ : Value, e = .returned (.tuple #[v0_, .int .i64 r2]) ∧ Kd.R (Kd.int .u8) 5 w' w.heap.size (fun _ => True) v0_ r1 ∧ Below w.heap.size w w' := by
 have hu64 := Tryd.underlying64
 have HR0 := Aside0.mk hr0
 have HC0 := Aside0.mk hc0
 clear hr0 hc0
 have HR1 := Aside0.mk hr1
 have HC1 := Aside0.mk hc1
 clear hr1 hc1
 have HB := Aside0.mk (Below.refl w.heap.size w)
 have H := h
 unfold xN.f at H
 clear h
 obtain ⟨⟨t147, t148⟩, A4, H⟩ := oB H
 try dsimp only at H
 rcases iL H with H1 | H1 <;> clear H <;> obtain ⟨H, c5b0⟩ := H1
 ·simp only [Option.some.injEq, Prod.mk.injEq] at H
  obtain ⟨rfl, rfl⟩ := H
  go_enter Tryd.func87, Tryd.ntmps87
  go_wp2_with (first | ((with_reducible refine gd 5 rfl ?_); refine bx 5 #[.bool a2_0, .int .i64 a2_1] 64 rfl rfl ?_; intro gb146 hg w6 hbox hb; have n_ := aC (bs hb) (aC hbox (aC (gz hg) (aE (gz hg)))); clear HB; obtain ⟨HB, BK146, GW146, GE146⟩ := n_; clear hb hbox hg; obtain ⟨hcz7_0, hcz7_1, hfz7_0, hfz7_1⟩ := yt BK146.out) | (refine gF 107 13 Tryd.func107 #[.slice A0 l0.length c0, .agg #[.bool a2_0, .int .i64 a2_1]] rfl rfl ?_; (with_reducible refine (xj.calls k _ _ l0 a2_0 a2_1 t147 t148 _ ?side1 ?side2 A4.out).mono ?_); (case side1 => exact cU (Kd.wO HR0.out HB.out)); (case side2 => exact HC0.out); rintro e w8 ⟨rfl, hb⟩; refine ⟨_, rfl, ?_⟩; have n_ := aC (vu (bU BK146.out) hb) (aE (bs hb)); clear BK146 HB; obtain ⟨BK146, HB⟩ := n_))
  go_ret2
  exact ⟨_, re, by first | exact Kd.yC _ _ _ _ _ | exact Kd.za _ _ _ _ _ | exact Kd.y9 _ _ _ _ _ | exact Kd.zb _ _ _ _ _ | exact Kd.yZ _ _ _ _ _, bl⟩
 ·by_cases c9 : 0 ≤ t147
  ·rw [if_pos c9] at H
   have c9b0 := decide_eq_true c9
   clear c9
   by_cases c10 : t147 < (l1.length : Int)
   ·rw [if_pos c10] at H
    have c10b0 := decide_eq_true c10
    clear c10
    obtain ⟨t151, A11, H⟩ := oB H
    try dsimp only at H
    by_cases c12 : t147 < (l0.length : Int)
    ·rw [if_pos c12] at H
     have c12b0 := decide_eq_true c12
     clear c12
     obtain ⟨t155, A13, H⟩ := oB H
     try dsimp only at H
     by_cases c14 : t151.length + t155.length < 140737488355328
     ·rw [if_pos c14] at H
      have LMc14 := Aside0.mk c14
      clear c14
      obtain ⟨y158, hy_⟩ : ∃ y_ : List Int, y_ = (t151 ++ t155) := ⟨_, rfl⟩
      replace H : (some (y158, 0)) = some (r1, r2) := rh
      have Ny158 := aE hy_
      clear hy_
      simp only [Option.some.injEq, Prod.mk.injEq] at H
      obtain ⟨rfl, rfl⟩ := H
      go_enter Tryd.func87, Tryd.ntmps87
      try go_wp2_with (first | ((with_reducible refine gd 5 rfl ?_); refine bx 5 #[.bool a2_0, .int .i64 a2_1] 64 rfl rfl ?_; intro gb146 hg w15 hbox hb; have n_ := aC (bs hb) (aC hbox (aC (gz hg) (aE (gz hg)))); clear HB; obtain ⟨HB, BK146, GW146, GE146⟩ := n_; clear hb hbox hg; obtain ⟨hcz16_0, hcz16_1, hfz16_0, hfz16_1⟩ := yt BK146.out) | (refine gF 107 13 Tryd.func107 #[.slice A0 l0.length c0, .agg #[.bool a2_0, .int .i64 a2_1]] rfl rfl ?_; (with_reducible refine (xj.calls k _ _ l0 a2_0 a2_1 t147 t148 _ ?side1 ?side2 A4.out).mono ?_); (case side1 => exact cU (Kd.wO HR0.out HB.out)); (case side2 => exact HC0.out); rintro e w17 ⟨rfl, hb⟩; refine ⟨_, rfl, ?_⟩; have n_ := aC (vu (bU BK146.out) hb) (aE (bs hb)); clear BK146 HB; obtain ⟨BK146, HB⟩ := n_))
      have n_ := aC (vn BK146.out) (aE (vG HB.out))
      clear BK146 HB
      obtain ⟨BK146, HB⟩ := n_
      have p149 : 0 ≤ (t147 : Int) := dt
      have q149 : t147 < (l1.length : Int) := dt
      obtain ⟨ad149, e149, hx149_0, hx149_1⟩ := at_T154 HR1.out t147 p149 q149
      have hw149_1 := hx149_1
      have hw149_0 := hx149_0
      cases e149
      replace hx149_0 := hcB HB.out hx149_0
      replace hx149_1 := hcB HB.out hx149_1
      replace p149 := eq_true p149
      replace q149 := eq_true q149
      have p150 : 0 ≤ (t147 : Int) := dt
      have q150 : t147 < (l1.length : Int) := dt
      obtain ⟨ad150, e150, hx150_0, hx150_1⟩ := at_T154 HR1.out t147 p150 q150
      have hw150_1 := hx150_1
      have hw150_0 := hx150_0
      obtain rfl : ad149 = ad150 := (by injection e150)
      replace hx150_0 := hcB HB.out hx150_0
      replace hx150_1 := hcB HB.out hx150_1
      replace p150 := eq_true p150
      replace q150 := eq_true q150
      have p154 : 0 ≤ (t147 : Int) := dt
      have q154 : t147 < (l0.length : Int) := dt
      obtain ⟨ad154, e154, hx154_0, hx154_1, hx154_2, hx154_3⟩ := xw HR0.out t147 p154 q154
      have hw154_3 := hx154_3
      have hw154_2 := hx154_2
      have hw154_1 := hx154_1
      have hw154_0 := hx154_0
      cases e154
      replace hx154_0 := hcB HB.out hx154_0
      replace hx154_1 := hcB HB.out hx154_1
      replace hx154_2 := hcB HB.out hx154_2
      replace hx154_3 := hcB HB.out hx154_3
      replace p154 := eq_true p154
      replace q154 := eq_true q154
      refine st 21 (fun w' => w'.cell? (ad149.add ((t147).toNat * 2)) = some (.int .i64 ((xQ l1 t147).f0)) ∧ w'.cell? ⟨(ad149.add ((t147).toNat * 2)).block, (ad149.add ((t147).toNat * 2)).off + 1, none⟩ = some (.int .i64 ((xQ l1 t147).f1)) ∧ w'.cell? (ad149.add ((t147).toNat * 2)) = some (.int .i64 ((xQ l1 t147).f0)) ∧ w'.cell? ⟨(ad149.add ((t147).toNat * 2)).block, (ad149.add ((t147).toNat * 2)).off + 1, none⟩ = some (.int .i64 ((xQ l1 t147).f1)) ∧ w'.cell? (ad154.add ((t147).toNat * 4)) = some (.int .i64 ((vk l0 t147).f0)) ∧ w'.cell? ⟨(ad154.add ((t147).toNat * 4)).block, (ad154.add ((t147).toNat * 4)).off + 1, none⟩ = some (.int .i64 ((vk l0 t147).f1)) ∧ w'.cell? ⟨(ad154.add ((t147).toNat * 4)).block, (ad154.add ((t147).toNat * 4)).off + 2, none⟩ = some (.int .i64 ((vk l0 t147).f2)) ∧ w'.cell? ⟨(ad154.add ((t147).toNat * 4)).block, (ad154.add ((t147).toNat * 4)).off + 3, none⟩ = some (.int .i64 ((vk l0 t147).f3))) [] (bv 21 0) xN.tab4 xN.bits4 ⟨(hcB HB.out hw149_0), (hcB HB.out hw149_1), (hcB HB.out hw150_0), (hcB HB.out hw150_1), (hcB HB.out hw154_0), (hcB HB.out hw154_1), (hcB HB.out hw154_2), (hcB HB.out hw154_3)⟩ (fun hHeld HT_ HW_ => ?_)
      generalize w17.drew = w18 at BK146 HB hx149_0 hx149_1 hx150_0 hx150_1 hx154_0 hx154_1 hx154_2 hx154_3 hHeld ⊢
      refine pu 0 18 (bv 21 1) HT_ rfl rfl ?_
      refine pu 1 19 (bv 21 3) HT_ rfl rfl ?_
      refine pu 2 20 (bv 21 7) HT_ rfl rfl ?_
      refine pu 3 21 (bv 21 15) HT_ rfl rfl ?_
      refine pu 5 23 (bv 21 47) HT_ rfl rfl ?_
      refine pu 6 24 (bv 21 111) HT_ rfl rfl ?_
      refine pu 7 25 (bv 21 239) HT_ rfl rfl ?_
      refine pu 8 26 (bv 21 495) HT_ rfl rfl ?_
      refine pu 11 29 (bv 21 2543) HT_ rfl rfl ?_
      refine pu 12 30 (bv 21 6639) HT_ rfl rfl ?_
      refine pu 13 31 (bv 21 14831) HT_ rfl rfl ?_
      refine pu 14 32 (bv 21 31215) HT_ rfl rfl ?_
      refine pu 15 33 (bv 21 63983) HT_ rfl rfl ?_
      refine tk 4 22 (bv 21 63999) HT_ HW_ hHeld rfl rfl (by rintro w' ⟨s0, s1, s2, s3, s4, s5, s6, s7⟩; exact yl) ?_
      refine tk 9 27 (bv 21 64511) HT_ HW_ hHeld rfl rfl (by rintro w' ⟨s0, s1, s2, s3, s4, s5, s6, s7⟩; exact yl) ?_
      refine tk 16 34 (bv 21 130047) HT_ HW_ hHeld rfl rfl (by rintro w' ⟨s0, s1, s2, s3, s4, s5, s6, s7⟩; exact yl) ?_
      refine yz (i := 10) (N := some 28) (bv 21 131071) rfl rfl (xq HT_.out (by kernel_rfl)) (by decide) (fun K hK => ?_)
      refine gK Tryd.func108 rfl #[.int .i64 ((xQ l1 t147).f0), .int .i64 ((xQ l1 t147).f1)] rfl rfl ?_
      with_reducible refine (wM.calls k ((xQ l1 t147).f0) ((xQ l1 t147).f1) t151 _ A11.out).mono ?_
      rintro e w19 ⟨v152, rfl, ho0, hb⟩
      refine ⟨_, rfl, ?_⟩
      have n_ := aC (Kd.vX ho0 bz) (aC (vu (bU BK146.out) hb) (aE (bs hb)))
      clear BK146 HB
      obtain ⟨HO153, BK146, HB⟩ := n_
      (try clear hb)
      (try clear hb2)
      (try clear hk)
      (try clear hi)
      (try clear ho0)
      refine hK.out _ _ ⟨(hcB HB.out hw149_0), (hcB HB.out hw149_1), (hcB HB.out hw150_0), (hcB HB.out hw150_1), (hcB HB.out hw154_0), (hcB HB.out hw154_1), (hcB HB.out hw154_2), (hcB HB.out hw154_3)⟩ (fun hHeld => ?_)
      clear hK K
      refine nm (some 28) ?_
      refine yz (i := 17) (N := some 35) (bv 21 262143) rfl rfl (xq HT_.out (by kernel_rfl)) (by decide) (fun K hK => ?_)
      refine gK Tryd.func108 rfl #[.int .i64 t148, .int .i64 ((vk l0 t147).f1)] rfl rfl ?_
      with_reducible refine (wM.calls k t148 ((vk l0 t147).f1) t155 _ A13.out).mono ?_
      rintro e w20 ⟨v156, rfl, ho0, hb⟩
      refine ⟨_, rfl, ?_⟩
      have n_ := aC (Kd.R_elder' (rU HO153.out) (Kd.xi ho0) hb) (aC (Kd.vX (Kd.R_new' ho0 (Kd.xX (rU HO153.out))) bz) (aC (vu (bU BK146.out) hb) (aE (bs hb))))
      clear HO153 BK146 HB
      obtain ⟨HO153, HO157, BK146, HB⟩ := n_
      (try clear hb)
      (try clear hb2)
      (try clear hk)
      (try clear hi)
      (try clear ho0)
      obtain ⟨Ao22, co22, eo22⟩ := Kd.wq HO157.out
      (first | subst eo22 | (injection eo22 with f1_ f2_ f3_; have f4_ := f1_.symm; have f5_ := f3_.symm; clear f1_ f2_ f3_; subst f4_; subst f5_))
      refine hK.out _ _ ⟨(hcB HB.out hw149_0), (hcB HB.out hw149_1), (hcB HB.out hw150_0), (hcB HB.out hw150_1), (hcB HB.out hw154_0), (hcB HB.out hw154_1), (hcB HB.out hw154_2), (hcB HB.out hw154_3)⟩ (fun hHeld => ?_)
      clear hK K
      refine nm (some 35) ?_
      refine yz (i := 18) (N := some 36) (bv 21 524287) rfl rfl (xq HT_.out (by kernel_rfl)) (by decide) (fun K hK => ?_)
      refine Kd.zE (Kd.int .u8) (w0 := w) w.heap.size (by rfl) (.tmp 28) (.tmp 35) 22 5 (.int .u8 0) 1 rfl Tryd.underlying22 info5 rfl (by decide) (by omega) v152 t151 t155 _ _ _ (fun k_ => some k_ ≠ (.slice Ao22 t155.length co22 : Value).ownBlock) (fun _ => False) rfl rfl ?aO ?aR (fun _ _ h => h) (fun _ h => h.elim) ?aF ?aB ?aS ?aL ?_
      (case aR => repeat (first | exact (Kd.R_reads' HO157.out).2.2 | (with_reducible refine Kd.yk ?_ _) | (with_reducible refine Kd.yj ?_ _) | (with_reducible refine Kd.yI ?_)))
      (case aB => exact bl)
      (case aF => exact (fun k_ hk => Kd.fresh' (Kd.xX (rU HO157.out)) k_ hk))
      (case aO => exact (rU (Kd.vY HO153.out (fun _ hk => hk.2))))
      (case aS => exact bz)
      (case aL => have := LMc14.out; omega)
      intro v159 w21 ho hb hg hat
      rw [← Ny158.out] at ho
      have n_ := aC (xx (bU BK146.out) hg (Kd.jh HO153.out BK146.out (by decide))) (aC (Kd.yU (ok := (fun _ => True)) (rU HO157.out) hg hat) (aC hb (aE ho)))
      clear BK146 HO157 HB HO153
      obtain ⟨BK146, HO157, HB, HO160⟩ := n_
      clear ho hb hg hat
      refine hK.out _ _ ⟨(hcB HB.out hw149_0), (hcB HB.out hw149_1), (hcB HB.out hw150_0), (hcB HB.out hw150_1), (hcB HB.out hw154_0), (hcB HB.out hw154_1), (hcB HB.out hw154_2), (hcB HB.out hw154_3)⟩ (fun hHeld => ?_)
      clear hK K
      refine nm (some 36) ?_
      refine pu 19 6 (bv 21 1048575) HT_ rfl rfl ?_
      refine pu 20 7 (bv 21 2097151) HT_ rfl rfl ?_
      refine yO (xS HT_.out (by kernel_rfl)) ?_
      try go_wp2
      go_ret2
      exact ⟨_, re, rU (Kd.vY HO160.out (fun _ hk => trivial)), bl⟩
     ·rw [if_neg c14] at H
      exact absurd H (by simp)
    ·rw [if_neg c12] at H
     exact absurd H (by simp)
   ·rw [if_neg c10] at H
    exact absurd H (by simp)
  ·rw [if_neg c9] at H
   exact absurd H (by simp)
mutual
def wv.l0 : Nat → List (xc) → List (zJ) → Int → Int → Int → Option ((List (zJ)))
 | 0, _, _, _, _, _ => none
 | k + 1, x0, x3, x5, x165000, x165001 => if x5 ≤ 15 then (if 0 ≤ (wrap64 (x5 - x165001)) then (wv.l1 k x0 x3 x5 x0 (x0.length : Int) 0 (shl .i64 x165000 (wrap64 (x5 - x165001))) x5) else (none)) else (some x3)
def wv.l1 : Nat → List (xc) → List (zJ) → Int → List (xc) → Int → Int → Int → Int → Option ((List (zJ)))
 | 0, _, _, _, _, _, _, _, _ => none
 | k + 1, x0, x3, x5, x25, x26, x27, x165000, x165001 => if x27 < x26 then (if 0 ≤ x27 then (if x27 < (x25.length : Int) then (if ((vk x25 x27).f0) = x5 then (if x27 < (x3.length : Int) then (wv.l1 k x0 (x3.set (x27 : Int).toNat (⟨x165000, x165001⟩ : zJ)) x5 x25 x26 (wrap64 (x27 + 1)) (wrap64 (x165000 + 1)) x165001) else (none)) else (wv.l1 k x0 x3 x5 x25 x26 (wrap64 (x27 + 1)) x165000 x165001)) else (none)) else (none)) else (wv.l0 k x0 x3 (wrap64 (x5 + 1)) x165000 x165001)
end
def wv.f (k : Nat) (l0 : List (xc)) : Option ((List (zJ))) := if 0 ≤ (l0.length : Int) then (if ((l0.length : Int) : Int).toNat ≤ 17592186044416 then (wv.l0 k l0 (List.replicate ((l0.length : Int) : Int).toNat z154) 1 0 1) else (none)) else (none)
theorem wv.wj : ∀ k, (∀ y0 y1 y2 y3 y4, vP (wv.l0 k y0 y1 y2 y3 y4) (wv.l0 (k + 1) y0 y1 y2 y3 y4)) ∧ (∀ y0 y1 y2 y3 y4 y5 y6 y7, vP (wv.l1 k y0 y1 y2 y3 y4 y5 y6 y7) (wv.l1 (k + 1) y0 y1 y2 y3 y4 y5 y6 y7))
 | 0 => ⟨fun _ _ _ _ _ r h => by simp [wv.l0] at h, fun _ _ _ _ _ _ _ _ r h => by simp [wv.l1] at h⟩
 | k + 1 => by
  obtain ⟨ih0, ih1⟩ := wv.wj k
  refine ⟨?_, ?_⟩
  ·intro y0 y1 y2 y3 y4
   unfold wv.l0
   repeat' first
   | (with_reducible exact ih0 _ _ _ _ _)
   | (with_reducible exact ih1 _ _ _ _ _ _ _ _)
   | (with_reducible first | exact vP.refl _ | exact vP.none _ | apply vP.ite | refine vP.bind ?_ fun _ => ?_)
  ·intro y0 y1 y2 y3 y4 y5 y6 y7
   unfold wv.l1
   repeat' first
   | (with_reducible exact ih0 _ _ _ _ _)
   | (with_reducible exact ih1 _ _ _ _ _ _ _ _)
   | (with_reducible first | exact vP.refl _ | exact vP.none _ | apply vP.ite | refine vP.bind ?_ fun _ => ?_)
theorem wv.mono : ∀ a0 k, vP (wv.f k a0) (wv.f (k + 1) a0) := by
 intro a0 k
 obtain ⟨ih0, ih1⟩ := wv.wj k
 unfold wv.f
 repeat' first
   | (with_reducible exact ih0 _ _ _ _ _)
   | (with_reducible exact ih1 _ _ _ _ _ _ _ _)
   | (with_reducible first | exact vP.refl _ | exact vP.none _ | apply vP.ite | refine vP.bind ?_ fun _ => ?_)
set_option maxHeartbeats 8000000 in
set_option maxRecDepth 100000 in
theorem wv.calls (k : Nat) (A0 : Option Addr) (c0 : Nat) (l0 : List (xc)) (r : List (zJ)) (w : World) (hr0 : Kd.C zh w A0 l0.length l0) (hc0 : l0.length ≤ c0) (h : wv.f k l0 = some r) :
  Calls Tryd.prog 88 #[.slice A0 l0.length c0] w fun e w' => ∃ v0_ : Value, e = .returned (v0_) ∧ Kd.R jt 154 w' w.heap.size (fun _ => True) v0_ r ∧ Below w.heap.size w w' := by
 have hu154 := Tryd.underlying154
 have hu87 := Tryd.underlying87
 have HR0 := Aside0.mk hr0
 have HC0 := Aside0.mk hc0
 clear hr0 hc0
 have HB := Aside0.mk (Below.refl w.heap.size w)
 have H := h
 unfold wv.f at H
 clear h
 by_cases c2 : 0 ≤ (l0.length : Int)
 ·rw [if_pos c2] at H
  have c2b0 := eq_true c2
  have c2b1 := decide_eq_true c2
  clear c2
  by_cases c3 : ((l0.length : Int) : Int).toNat ≤ 17592186044416
  ·rw [if_pos c3] at H
   have c3b0 := eq_true c3
   have c3b1 := decide_eq_true c3
   clear c3
   obtain ⟨y161, hy_⟩ : ∃ y_ : List (zJ), y_ = (List.replicate ((l0.length : Int) : Int).toNat z154) := ⟨_, rfl⟩
   replace H : (wv.l0 k l0 y161 1 0 1) = some r := rh
   have Ny161 := aE hy_
   clear hy_
   have H' := Aside0.mk H
   clear H
   go_enter Tryd.func88, Tryd.ntmps88
   go_wp2_with (first | ((with_reducible refine gd 10 rfl ?_); refine Kd.jF jt _ 154 rfl (N := 10) rfl 125 _ _ rfl (l0.length : Int) rfl rfl Tryd.underlying125 (.agg #[(.int .i64 0), (.int .i64 0)]) 16 info154 rfl (by decide) (by omega) z154 (ok := fun _ => True) (okp := fun _ => True) (k154_mkM _ _ _ z154 ) (fun _ hk => hk) trivial (dt) (Nat.le_trans (Nat.mul_le_mul_right _ (dt : (l0.length : Int).toNat ≤ 17592186044416)) (by omega)) (Below.refl _ _) (Nat.le_refl _) ?_; intro v162 w4 ho5 hb hg_ hnew_; clear hg_ hnew_; (first | rw [← Ny161.out] at ho5 | (simp only [Int.reduceToNat] at ho5; rw [← Ny161.out] at ho5)); have n_ := aC (Kd.vX ho5 bz) (aE (bs hb)); clear HB; obtain ⟨HO163, HB⟩ := n_; clear hb ho5) | ((with_reducible refine gd 4 rfl ?_); refine bx 4 #[.int .i64 0, .int .i64 0] 154 rfl rfl ?_; intro gb164 hg w6 hbox hb; have n_ := aC (Kd.vT (Kd.jI (rU HO163.out) gb164 (Nat.le_of_eq hg.symm)) hb) (aC (bs hb) (aC hbox (aC (gz hg) (aE (gz hg))))); clear HO163 HB; obtain ⟨HO163, HB, BK164, GW164, GE164⟩ := n_; clear hb hbox hg; obtain ⟨hcz7_0, hcz7_1, hfz7_0, hfz7_1⟩ := yt BK164.out))
   go_loopg [5] k (fun kq v5 w' => ∃ (x3_1 : List (zJ)) (x5_1 : Int) (x165000_1 : Int) (x165001_1 : Int), v5 = .int .i64 x5_1 ∧ Aside0 (wv.l0 kq l0 x3_1 x5_1 x165000_1 x165001_1 = some r) ∧ Aside0 (kq ≤ k) ∧ Aside0 (Kd.R jt 154 w' w.heap.size (fun k_ => k_ ≠ gb164) v162 x3_1) ∧ Aside0 (w'.heap[gb164]? = some (.cells #[.int .i64 x165000_1, .int .i64 x165001_1] 154 (0, 0))) ∧ Aside0 (Below w.heap.size w w'))
   case atStart => exact ⟨(y161), (1), (0), (1), rq, H', ⟨Nat.le_refl _⟩, ⟨rU (Kd.vY (Kd.wI (p := ⟨gb164, 1, none⟩) (Kd.wI (p := ⟨gb164, 0, none⟩) (Kd.vY HO163.out (fun k_ hk => (⟨hk, hk.2⟩ : _ ∧ k_ ≠ gb164))) (fun _ hk => hk.2) (.int .i64 0)) (fun _ hk => hk.2) (.int .i64 1)) (fun _ hk => hk.1.2))⟩, ⟨by (with_reducible repeat first | apply vl | apply vn | apply vm); refine vv (cs := #[.int .i64 0, .int .i64 0]) ?_ 1 _ rfl; (with_reducible repeat first | apply vl | apply vn | apply vm); refine vv (cs := #[.int .i64 0, .int .i64 0]) ?_ 0 _ rfl; (with_reducible repeat first | apply vl | apply vn | apply vm); exact BK164.out⟩, ⟨bl⟩⟩
   case round =>
    clear H'
    obtain ⟨x3_1, x5_1, x165000_1, x165001_1, rfl, HA, HK1, HO_3, BK164, HB⟩ := hrel
    cases gk with
    | zero => exact absurd HA.out (by simp [wv.l0])
    | succ k1 =>
     have H := HA.out
     clear HA
     simp only [wv.l0] at H
     rcases iL H with H1 | H1 <;> clear H <;> obtain ⟨H, c8b0⟩ := H1
     ·obtain ⟨ji9, hji9⟩ : ∃ j_ : Int, (wrap64 (x5_1 - x165001_1)) = j_ := ⟨_, rfl⟩
      replace H : (if 0 ≤ (ji9) then (wv.l1 k1 l0 x3_1 x5_1 l0 (l0.length : Int) 0 (shl .i64 x165000_1 (ji9)) x5_1) else (none)) = some r := by first | (rw [hji9] at H; exact H) | (simp only [hji9] at H ⊢; exact H)
      have hji9w : (IntKind.i64.wrap (x5_1 - x165001_1)) = ji9 := (xD _).trans hji9
      by_cases c10 : 0 ≤ (ji9)
      ·rw [if_pos c10] at H
       have c10b0 := eq_true c10
       have c10b1 := decide_eq_true c10
       clear c10
       obtain ⟨ji11, hji11⟩ : ∃ j_ : Int, (shl .i64 x165000_1 (ji9)) = j_ := ⟨_, rfl⟩
       replace H : (wv.l1 k1 l0 x3_1 x5_1 l0 (l0.length : Int) 0 ji11 x5_1) = some r := by first | (rw [hji11] at H; exact H) | (simp only [hji11] at H ⊢; exact H)
       have hji11_ : (IntKind.i64.wrap (x165000_1 * 2 ^ min (ji9).toNat 64)) = ji11 := hji11
       have hji11z : (ji9) ≤ 64 → (IntKind.i64.wrap (x165000_1 * 2 ^ (ji9).toNat)) = ji11 := zv hji11
       have hji11y : (wrap64 (x165000_1 * 2 ^ min (ji9).toNat 64)) = ji11 := (xD _).symm.trans hji11_
       have hji11x : (ji9) ≤ 64 → (wrap64 (x165000_1 * 2 ^ (ji9).toNat)) = ji11 := fun h_ => (xD _).symm.trans (hji11z h_)
       have H' := Aside0.mk H
       clear H
       obtain ⟨hcz12_0, hcz12_1, hfz12_0, hfz12_1⟩ := yt BK164.out
       go_wp2
       go_loopg [27] k1 (fun kq v27 w' => ∃ (x3_2 : List (zJ)) (x27_2 : Int) (x165000_2 : Int) (x165001_2 : Int), v27 = .int .i64 x27_2 ∧ Aside0 (wv.l1 kq l0 x3_2 x5_1 l0 (l0.length : Int) x27_2 x165000_2 x165001_2 = some r) ∧ Aside0 (kq ≤ k1) ∧ Aside0 (Kd.R jt 154 w' w.heap.size (fun k_ => k_ ≠ gb164) v162 x3_2) ∧ Aside0 (w'.heap[gb164]? = some (.cells #[.int .i64 x165000_2, .int .i64 x165001_2] 154 (0, 0))) ∧ Aside0 (Below w.heap.size w w'))
       case atStart => exact ⟨(x3_1), (0), (ji11), (x5_1), rq, H', ⟨Nat.le_refl _⟩, ⟨rU (Kd.vY (Kd.wI (p := ⟨gb164, 1, none⟩) (Kd.wI (p := ⟨gb164, 0, none⟩) (Kd.vY HO_3.out (fun k_ hk => (⟨hk, hk⟩ : _ ∧ k_ ≠ gb164))) (fun _ hk => hk.2) (.int .i64 ji11)) (fun _ hk => hk.2) (.int .i64 x5_1)) (fun _ hk => hk.1))⟩, ⟨by (with_reducible repeat first | apply vl | apply vn | apply vm); refine vv (cs := #[.int .i64 ji11, .int .i64 x165001_1]) ?_ 1 _ rfl; (with_reducible repeat first | apply vl | apply vn | apply vm); refine vv (cs := #[.int .i64 x165000_1, .int .i64 x165001_1]) ?_ 0 _ rfl; (with_reducible repeat first | apply vl | apply vn | apply vm); exact BK164.out⟩, ⟨bl⟩⟩
       case round =>
        clear H'
        obtain ⟨x3_2, x27_2, x165000_2, x165001_2, rfl, HA, HK2, HO_3, BK164, HB⟩ := hrel
        cases gk with
        | zero => exact absurd HA.out (by simp [wv.l1])
        | succ k2 =>
         have H := HA.out
         clear HA
         simp only [wv.l1] at H
         rcases iL H with H1 | H1 <;> clear H <;> obtain ⟨H, c13b0⟩ := H1
         ·by_cases c14 : 0 ≤ x27_2
          ·rw [if_pos c14] at H
           have c14b0 := decide_eq_true c14
           clear c14
           by_cases c15 : x27_2 < (l0.length : Int)
           ·rw [if_pos c15] at H
            have c15b0 := decide_eq_true c15
            clear c15
            rcases iE H with H1 | H1 <;> clear H <;> obtain ⟨H, c16b0, c16b1, c16⟩ := H1
            ·by_cases c17 : x27_2 < (x3_2.length : Int)
             ·rw [if_pos c17] at H
              have c17b0 := decide_eq_true c17
              clear c17
              obtain ⟨y167, hy_⟩ : ∃ y_ : List (zJ), y_ = (x3_2.set (x27_2 : Int).toNat (⟨x165000_2, x165001_2⟩ : zJ)) := ⟨_, rfl⟩
              replace H : (wv.l1 k2 l0 y167 x5_1 l0 (l0.length : Int) (wrap64 (x27_2 + 1)) (wrap64 (x165000_2 + 1)) x165001_2) = some r := rh
              have Ny167 := aE hy_
              clear hy_
              have H' := Aside0.mk H
              clear H
              have p165 : 0 ≤ (x27_2 : Int) := dt
              have q165 : x27_2 < (l0.length : Int) := dt
              obtain ⟨ad165, e165, hx165_0, hx165_1, hx165_2, hx165_3⟩ := xw HR0.out x27_2 p165 q165
              cases e165
              replace hx165_0 := hcB HB.out hx165_0
              replace hx165_1 := hcB HB.out hx165_1
              replace hx165_2 := hcB HB.out hx165_2
              replace hx165_3 := hcB HB.out hx165_3
              replace p165 := eq_true p165
              replace q165 := eq_true q165
              go_wp2_with (first | ((with_reducible refine gd 7 rfl ?_); refine bx 7 #[.int .i64 0, .int .i64 0, .int .i64 0, .int .i64 0] 87 rfl rfl ?_; intro gb166 hg w19 hbox hb; have n_ := aC (Kd.vT (rU HO_3.out) hb) (aC (vu (bU BK164.out) hb) (aC (bs hb) (aC hbox (aC (gz hg) (aC (gz hg) (aC (gn hg (bU BK164.out)) (aE (gm hg (bU BK164.out))))))))); clear HO_3 BK164 HB; obtain ⟨HO_3, BK164, HB, BK166, GW166, GE166, NB164_166, NB166_164⟩ := n_; clear hb hbox hg; have hnb20 := NB166_164.out; have hnc20 := NB164_166.out; obtain ⟨hcz21_0, hcz21_1, hcz21_2, hcz21_3, hfz21_0, hfz21_1, hfz21_2, hfz21_3⟩ := xC BK166.out) | ((with_reducible refine zp (t := 87) (p := 7) rfl ?_); refine yY (t := 87) (p := 7) (v := ?vo_w22) (w1 := ((((w19.setCell ⟨gb166, 0, none⟩ (.int .i64 ((vk l0 x27_2).f0))).setCell ⟨gb166, 1, none⟩ (.int .i64 ((vk l0 x27_2).f1))).setCell ⟨gb166, 2, none⟩ (.int .i64 ((vk l0 x27_2).f2))).setCell ⟨gb166, 3, none⟩ (.int .i64 ((vk l0 x27_2).f3)))) ?hg ?ho ?hn ?hr ?_; (case ho => rfl); (case hg => rfl); (case hn => rfl); (case hr => first | (go_simp; done) | (go_simp; rfl)); intro w22 hw; have n_ := aC (show Kd.R jt 154 w22 w.heap.size (fun k_ => k_ ≠ gb164) v162 x3_2 from (by rw [hw]; exact (rU (Kd.vY (Kd.wI (p := ⟨gb166, 3, none⟩) (Kd.wI (p := ⟨gb166, 2, none⟩) (Kd.wI (p := ⟨gb166, 1, none⟩) (Kd.wI (p := ⟨gb166, 0, none⟩) (Kd.xu HO_3.out BK166.out (by decide)) (fun _ hk => hk.2) (.int .i64 ((vk l0 x27_2).f0))) (fun _ hk => hk.2) (.int .i64 ((vk l0 x27_2).f1))) (fun _ hk => hk.2) (.int .i64 ((vk l0 x27_2).f2))) (fun _ hk => hk.2) (.int .i64 ((vk l0 x27_2).f3))) (fun _ hk => hk.1))))) (aC (show w22.heap[gb164]? = some (.cells #[.int .i64 x165000_2, .int .i64 x165001_2] 154 (0, 0)) from (by rw [hw]; exact (by (with_reducible repeat first | apply vl | apply vn | apply vm); refine vV ?_ NB164_166.out _; (with_reducible repeat first | apply vl | apply vn | apply vm); refine vV ?_ NB164_166.out _; (with_reducible repeat first | apply vl | apply vn | apply vm); refine vV ?_ NB164_166.out _; (with_reducible repeat first | apply vl | apply vn | apply vm); refine vV ?_ NB164_166.out _; (with_reducible repeat first | apply vl | apply vn | apply vm); exact BK164.out))) (aC (show w22.heap[gb166]? = some (.cells #[.int .i64 ((vk l0 x27_2).f0), .int .i64 ((vk l0 x27_2).f1), .int .i64 ((vk l0 x27_2).f2), .int .i64 ((vk l0 x27_2).f3)] 87 (0, 0)) from (by rw [hw]; exact (by (with_reducible repeat first | apply vl | apply vn | apply vm); refine vv (cs := #[.int .i64 ((vk l0 x27_2).f0), .int .i64 ((vk l0 x27_2).f1), .int .i64 ((vk l0 x27_2).f2), .int .i64 0]) ?_ 3 _ rfl; (with_reducible repeat first | apply vl | apply vn | apply vm); refine vv (cs := #[.int .i64 ((vk l0 x27_2).f0), .int .i64 ((vk l0 x27_2).f1), .int .i64 0, .int .i64 0]) ?_ 2 _ rfl; (with_reducible repeat first | apply vl | apply vn | apply vm); refine vv (cs := #[.int .i64 ((vk l0 x27_2).f0), .int .i64 0, .int .i64 0, .int .i64 0]) ?_ 1 _ rfl; (with_reducible repeat first | apply vl | apply vn | apply vm); refine vv (cs := #[.int .i64 0, .int .i64 0, .int .i64 0, .int .i64 0]) ?_ 0 _ rfl; (with_reducible repeat first | apply vl | apply vn | apply vm); exact BK166.out))) (aE (show Below w.heap.size w w22 from (by rw [hw]; exact bl))))); clear hw HO_3 BK164 BK166 HB; obtain ⟨HO_3, BK164, BK166, HB⟩ := n_; obtain ⟨hcz23_0, hcz23_1, hcz23_2, hcz23_3, hfz23_0, hfz23_1, hfz23_2, hfz23_3⟩ := xC BK166.out; obtain ⟨hcz24_0, hcz24_1, hfz24_0, hfz24_1⟩ := yt BK164.out; have p18 : 0 ≤ (x27_2 : Int) := dt; have q18 : (x27_2 : Int) < ((x3_2.length : Int) : Int) := dt; obtain ⟨go18, co18, eo18, gb18, gl18, cl18, HG18⟩ := Kd.R_form HO_3.out (by omega); (first | cases eo18 | (injection eo18 with ea_ en_ ec_; (first | subst ea_ | (injection ea_ with ea_; subst ea_)); subst ec_; clear en_)); have GB18 := Aside0.mk gb18; have GG18 := Aside0.mk HG18; clear gb18 gl18 HG18; obtain ⟨ce18, hcl18, hM18, hcc18, hfr18⟩ := Kd.R_elem HO_3.out z154 (x27_2 : Int) p18 q18; obtain rfl := qb hM18; have hx18_0 : w22.cell? ⟨go18, (x27_2 : Int).toNat * 2, none⟩ = some (.int .i64 ((xQ x3_2 x27_2).f0)) := hcc18 0 _ rfl; have hx18_1 : w22.cell? ⟨go18, (x27_2 : Int).toNat * 2 + 1, none⟩ = some (.int .i64 ((xQ x3_2 x27_2).f1)) := hcc18 1 _ rfl; have hf18_0 : w22.frozen? ⟨go18, (x27_2 : Int).toNat * 2, none⟩ = false := hfr18 0; have hf18_1 : w22.frozen? ⟨go18, (x27_2 : Int).toNat * 2 + 1, none⟩ = false := hfr18 1; clear hcl18 hcc18 hfr18 hM18; replace p18 := eq_true p18; replace q18 := eq_true q18; have HX25 := Aside0.mk (show Kd.R jt 154 w22 w.heap.size (fun k_ => k_ ≠ gb164) (.slice (some ⟨go18, 0, none⟩) x3_2.length co18) x3_2 from (rU HO_3.out)); obtain ⟨ce25, hcl25, hM25, hcc25, hfr25⟩ := Kd.R_elem HX25.out z154 (x27_2 : Int) (dt) (by have h_ : (x27_2 : Int) < ((x3_2.length : Int) : Int) := dt; first | exact h_ | (have e_ := (Kd.R_reads' HO_3.out).1; omega) | simpa using h_); obtain rfl := qb hM25; have HP25 := Kd.R_seg HX25.out (x27_2 : Int) (dt) (by have h_ : (x27_2 : Int) < ((x3_2.length : Int) : Int) := dt; first | exact h_ | (have e_ := (Kd.R_reads' HO_3.out).1; omega) | simpa using h_) (seg := [.int .i64 x165000_2, .int .i64 x165001_2]) (j := 0) hcl25 hcc25 (show 2 ≤ 2 from by decide) (x' := (⟨x165000_2, x165001_2⟩ : zJ)) (k154_mkM _ _ _ (⟨x165000_2, x165001_2⟩ : zJ) ) (fun _ hk => hk); have hx25_0 := hcc25 0 _ rfl; (try simp only [show (jt).sz = 2 from rfl, Nat.mul_one, Nat.add_zero] at hx25_0); have hf25_0 := hfr25 0; (try simp only [show (jt).sz = 2 from rfl, Nat.mul_one, Nat.add_zero] at hf25_0); have hx25_1 := hcc25 1 _ rfl; (try simp only [show (jt).sz = 2 from rfl, Nat.mul_one, Nat.add_zero] at hx25_1); have hf25_1 := hfr25 1; (try simp only [show (jt).sz = 2 from rfl, Nat.mul_one, Nat.add_zero] at hf25_1); clear hcl25 hcc25 hfr25 hM25) | ((with_reducible refine zp (t := 154) (p := 39) rfl ?_); refine yY (t := 154) (p := 39) (v := ?vo_w26) (w1 := ((w22.setCell ⟨go18, (x27_2 : Int).toNat * 2, none⟩ (.int .i64 x165000_2)).setCell ⟨go18, (x27_2 : Int).toNat * 2 + 1, none⟩ (.int .i64 x165001_2))) ?hg ?ho ?hn ?hr ?_; (case ho => rfl); (case hg => rfl); (case hn => rfl); (case hr => first | (go_simp; done) | (go_simp; rfl)); intro w26 hw; have hg : w22.grownBy w26 (some go18) := (by rw [hw]; exact HP25.2); have hp_ : Kd.R jt 154 w26 w.heap.size (fun k_ => k_ ≠ gb164) (.slice (some ⟨go18, 0, none⟩) x3_2.length co18) y167 := (by rw [hw, Ny167.out]; exact HP25.1); clear HP25; have n_ := aC hp_ (aC (xx (bU BK164.out) hg (Kd.R_away HO_3.out (fun _ hk => hk))) (aC (xx (g := gb166) (o := .cells #[.int .i64 ((vk l0 x27_2).f0), .int .i64 ((vk l0 x27_2).f1), .int .i64 ((vk l0 x27_2).f2), .int .i64 ((vk l0 x27_2).f3)] 87 (0, 0)) (bU BK166.out) hg (Kd.jh HO_3.out BK166.out (by decide))) (aE ((by rw [hw]; exact wk (wk (HB.out) GB18.out) GB18.out : Below w.heap.size w w26))))); clear HO_3 BK164 BK166 HB; obtain ⟨HO_3, BK164, BK166, HB⟩ := n_; clear hg hw hp_; obtain ⟨hcz27_0, hcz27_1, hfz27_0, hfz27_1⟩ := yt BK164.out))
              go_roundg k2
              case measure => have := HK1.out; have := HK2.out; omega
              case rel => exact ⟨(y167), (wrap64 (x27_2 + 1)), (wrap64 (x165000_2 + 1)), (x165001_2), rq, H', ⟨by have := HK1.out; have := HK2.out; omega⟩, ⟨rU (Kd.vY (Kd.wI (p := ⟨gb164, 0, none⟩) (Kd.vY HO_3.out (fun k_ hk => (⟨hk, hk⟩ : _ ∧ k_ ≠ gb164))) (fun _ hk => hk.2) (.int .i64 (wrap64 (x165000_2 + 1)))) (fun _ hk => hk.1))⟩, ⟨by (with_reducible repeat first | apply vl | apply vn | apply vm); refine vv (cs := #[.int .i64 x165000_2, .int .i64 x165001_2]) ?_ 0 _ rfl; (with_reducible repeat first | apply vl | apply vn | apply vm); exact BK164.out⟩, ⟨bl⟩⟩
             ·rw [if_neg c17] at H
              exact absurd H (by simp)
            ·have H' := Aside0.mk H
             clear H
             have p165 : 0 ≤ (x27_2 : Int) := dt
             have q165 : x27_2 < (l0.length : Int) := dt
             obtain ⟨ad165, e165, hx165_0, hx165_1, hx165_2, hx165_3⟩ := xw HR0.out x27_2 p165 q165
             cases e165
             replace hx165_0 := hcB HB.out hx165_0
             replace hx165_1 := hcB HB.out hx165_1
             replace hx165_2 := hcB HB.out hx165_2
             replace hx165_3 := hcB HB.out hx165_3
             replace p165 := eq_true p165
             replace q165 := eq_true q165
             go_wp2_with (first | ((with_reducible refine gd 7 rfl ?_); refine bx 7 #[.int .i64 0, .int .i64 0, .int .i64 0, .int .i64 0] 87 rfl rfl ?_; intro gb166 hg w28 hbox hb; have n_ := aC (Kd.vT (rU HO_3.out) hb) (aC (vu (bU BK164.out) hb) (aC (bs hb) (aC hbox (aC (gz hg) (aC (gz hg) (aC (gn hg (bU BK164.out)) (aE (gm hg (bU BK164.out))))))))); clear HO_3 BK164 HB; obtain ⟨HO_3, BK164, HB, BK166, GW166, GE166, NB164_166, NB166_164⟩ := n_; clear hb hbox hg; have hnb29 := NB166_164.out; have hnc29 := NB164_166.out; obtain ⟨hcz30_0, hcz30_1, hcz30_2, hcz30_3, hfz30_0, hfz30_1, hfz30_2, hfz30_3⟩ := xC BK166.out))
             go_roundg k2
             case measure => have := HK1.out; have := HK2.out; omega
             case rel => exact ⟨(x3_2), (wrap64 (x27_2 + 1)), (x165000_2), (x165001_2), rq, H', ⟨by have := HK1.out; have := HK2.out; omega⟩, ⟨rU (Kd.vY (Kd.wI (p := ⟨gb166, 3, none⟩) (Kd.wI (p := ⟨gb166, 2, none⟩) (Kd.wI (p := ⟨gb166, 1, none⟩) (Kd.wI (p := ⟨gb166, 0, none⟩) (Kd.xu HO_3.out BK166.out (by decide)) (fun _ hk => hk.2) (.int .i64 ((vk l0 x27_2).f0))) (fun _ hk => hk.2) (.int .i64 ((vk l0 x27_2).f1))) (fun _ hk => hk.2) (.int .i64 ((vk l0 x27_2).f2))) (fun _ hk => hk.2) (.int .i64 ((vk l0 x27_2).f3))) (fun _ hk => hk.1))⟩, ⟨by (with_reducible repeat first | apply vl | apply vn | apply vm); refine vV ?_ NB164_166.out _; (with_reducible repeat first | apply vl | apply vn | apply vm); refine vV ?_ NB164_166.out _; (with_reducible repeat first | apply vl | apply vn | apply vm); refine vV ?_ NB164_166.out _; (with_reducible repeat first | apply vl | apply vn | apply vm); refine vV ?_ NB164_166.out _; (with_reducible repeat first | apply vl | apply vn | apply vm); exact BK164.out⟩, ⟨bl⟩⟩
           ·rw [if_neg c15] at H
            exact absurd H (by simp)
          ·rw [if_neg c14] at H
           exact absurd H (by simp)
         ·have H' := Aside0.mk H
          clear H
          go_wp2
          go_roundg k2
          case measure => have := HK1.out; have := HK2.out; omega
          case rel => exact ⟨(x3_2), (wrap64 (x5_1 + 1)), (x165000_2), (x165001_2), rq, H', ⟨by have := HK1.out; have := HK2.out; omega⟩, ⟨rU HO_3.out⟩, ⟨bU BK164.out⟩, ⟨bl⟩⟩
      ·rw [if_neg c10] at H
       exact absurd H (by simp)
     ·obtain rfl := Option.some.inj H
      go_wp2
      go_ret
      exact ⟨_, re, rU (Kd.vY HO_3.out (fun _ hk => trivial)), bl⟩
  ·rw [if_neg c3] at H
   exact absurd H (by simp)
 ·rw [if_neg c2] at H
  exact absurd H (by simp)
def xy.f (k : Nat) (l0 : List (xc)) (a1_0 : Bool) (a1_1 : Int) : Option (List Int × Int) := (xa.f k l0).bind fun t169 => (if t169 = true then ((wv.f k l0).bind fun t170 => ((xN.f k l0 t170 a1_0 a1_1).bind fun bt173 => (some (bt173.1, bt173.2)))) else (some (([] : List Int), 20)))
theorem xy.mono : ∀ a0 a1 a2 k, vP (xy.f k a0 a1 a2) (xy.f (k + 1) a0 a1 a2) := by
 intro a0 a1 a2 k
 unfold xy.f
 repeat' first
   | (with_reducible exact xa.mono _ _)
   | (with_reducible exact wv.mono _ _)
   | (with_reducible exact xN.mono _ _ _ _ _)
   | (with_reducible first | exact vP.refl _ | exact vP.none _ | apply vP.ite | refine vP.bind ?_ fun _ => ?_)
def xy.T3 : Bool × List (List Nat × List Nat) := (true, [([], []), ([], []), ([1], [1]), ([], []), ([0, 2, 3, 2], [0, 2, 3]), ([4], [4]), ([4], [4]), ([5, 4, 0, 1, 2, 3, 4, 5, 6], [5]), ([6, 7, 0, 1, 2, 3, 4, 5, 6, 7], [6])])
def xy.B3 : List Nat := [0, 0, 2, 0, 15, 31, 31, 127, 255]
theorem xy.tab3 : yN .any (opsOf Tryd.f58 3) = xy.T3 := by kernel_rfl
theorem xy.bits3 : yi xy.T3.2 xy.B3 = true := by kernel_rfl
set_option maxHeartbeats 8000000 in
set_option maxRecDepth 100000 in
theorem xy.calls (k : Nat) (A0 : Option Addr) (c0 : Nat) (l0 : List (xc)) (a1_0 : Bool) (a1_1 : Int) (r1 : List Int) (r2 : Int) (w : World) (hr0 : Kd.C zh w A0 l0.length l0) (hc0 : l0.length ≤ c0) (h : xy.f k l0 a1_0 a1_1 = some (r1, r2)) :
  Calls Tryd.prog 58 #[.slice A0 l0.length c0, .agg #[.bool a1_0, .int .i64 a1_1]] w fun e w' => ∃ v0_ : Value, e = .returned (.tuple #[v0_, .int .i64 r2]) ∧ Kd.R (Kd.int .u8) 5 w' w.heap.size (fun _ => True) v0_ r1 ∧ Below w.heap.size w w' := by
 have hu64 := Tryd.underlying64
 have HR0 := Aside0.mk hr0
 have HC0 := Aside0.mk hc0
 clear hr0 hc0
 have HB := Aside0.mk (Below.refl w.heap.size w)
 have H := h
 unfold xy.f at H
 clear h
 obtain ⟨t169, A3, H⟩ := oB H
 try dsimp only at H
 by_cases c4 : t169 = true
 ·subst c4
  rw [if_pos rfl] at H
  obtain ⟨t170, A5, H⟩ := oB H
  try dsimp only at H
  obtain ⟨⟨t173, t176⟩, A6, H⟩ := oB H
  try dsimp only at H
  simp only [Option.some.injEq, Prod.mk.injEq] at H
  obtain ⟨rfl, rfl⟩ := H
  go_enter Tryd.func58, Tryd.ntmps58
  try go_wp2_with (first | ((with_reducible refine gd 3 rfl ?_); refine bx 3 #[.bool a1_0, .int .i64 a1_1] 64 rfl rfl ?_; intro gb168 hg w7 hbox hb; have n_ := aC (bs hb) (aC hbox (aC (gz hg) (aE (gz hg)))); clear HB; obtain ⟨HB, BK168, GW168, GE168⟩ := n_; clear hb hbox hg) | (refine gF 86 7 Tryd.func86 #[.slice A0 l0.length c0] rfl rfl ?_; (with_reducible refine (xa.calls k _ _ l0 true _ ?side1 ?side2 A3.out).mono ?_); (case side1 => exact cU (Kd.wO HR0.out HB.out)); (case side2 => exact HC0.out); rintro e w8 ⟨rfl, hb⟩; refine ⟨_, rfl, ?_⟩; have n_ := aC (vu (bU BK168.out) hb) (aE (bs hb)); clear BK168 HB; obtain ⟨BK168, HB⟩ := n_))
  have n_ := aC (vn BK168.out) (aE (vG HB.out))
  clear BK168 HB
  obtain ⟨BK168, HB⟩ := n_
  refine st 9 (fun w' => w'.cell? ⟨gb168, 0, none⟩ = some (.bool a1_0) ∧ w'.cell? ⟨gb168, 1, none⟩ = some (.int .i64 a1_1)) [] (bv 9 0) xy.tab3 xy.bits3 ⟨jq BK168.out, jk BK168.out⟩ (fun hHeld HT_ HW_ => ?_)
  generalize w8.drew = w9 at BK168 HB hHeld ⊢
  refine pu 0 9 (bv 9 1) HT_ rfl rfl ?_
  refine pu 1 10 (bv 9 3) HT_ rfl rfl ?_
  refine tk 3 12 (bv 9 11) HT_ HW_ hHeld rfl rfl (by rintro w' ⟨s0, s1⟩; exact yl) ?_
  refine yz (i := 2) (N := some 11) (bv 9 15) rfl rfl (xq HT_.out (by kernel_rfl)) (by decide) (fun K hK => ?_)
  refine gK Tryd.func88 rfl #[.slice A0 l0.length c0] rfl rfl ?_
  with_reducible refine (wv.calls k _ _ l0 t170 _ ?side1 ?side2 A5.out).mono ?_
  (case side1 => exact cU (Kd.wO HR0.out HB.out))
  (case side2 => exact HC0.out)
  rintro e w10 ⟨v171, rfl, ho0, hb⟩
  refine ⟨_, rfl, ?_⟩
  have n_ := aC (Kd.vX ho0 bz) (aC (vu (bU BK168.out) hb) (aE (bs hb)))
  clear BK168 HB
  obtain ⟨HO172, BK168, HB⟩ := n_
  (try clear hb)
  (try clear hb2)
  (try clear hk)
  (try clear hi)
  (try clear ho0)
  obtain ⟨Ao11, co11, eo11⟩ := Kd.wq HO172.out
  (first | subst eo11 | (injection eo11 with f1_ f2_ f3_; have f4_ := f1_.symm; have f5_ := f3_.symm; clear f1_ f2_ f3_; subst f4_; subst f5_))
  refine hK.out _ _ ⟨jq BK168.out, jk BK168.out⟩ (fun hHeld => ?_)
  clear hK K
  refine nm (some 11) ?_
  refine yz (i := 4) (N := some 13) (bv 9 31) rfl rfl (xq HT_.out (by kernel_rfl)) (by decide) (fun K hK => ?_)
  refine gK Tryd.func87 rfl #[.slice A0 l0.length c0, .slice Ao11 t170.length co11, .agg #[.bool a1_0, .int .i64 a1_1]] rfl rfl ?_
  with_reducible refine (xN.calls k _ _ l0 _ _ t170 a1_0 a1_1 t173 t176 _ ?side1 ?side2 ?side3 ?side4 A6.out).mono ?_
  (case side1 => exact cU (Kd.wO HR0.out HB.out))
  (case side2 => exact HC0.out)
  (case side3 => exact cU (Kd.R_reads' HO172.out).2.2)
  (case side4 => exact (Kd.R_reads' HO172.out).2.1)
  rintro e w12 ⟨v174, rfl, ho0, hb⟩
  refine ⟨_, rfl, ?_⟩
  have n_ := aC (Kd.vT (rU HO172.out) hb) (aC (Kd.vX ho0 bz) (aC (vu (bU BK168.out) hb) (aE (bs hb))))
  clear HO172 BK168 HB
  obtain ⟨HO172, HO175, BK168, HB⟩ := n_
  (try clear hb)
  (try clear hb2)
  (try clear hk)
  (try clear hi)
  (try clear ho0)
  refine hK.out _ _ ⟨jq BK168.out, jk BK168.out⟩ (fun hHeld => ?_)
  clear hK K
  refine nm (some 13) ?_
  refine pu 5 14 (bv 9 63) HT_ rfl rfl ?_
  refine pu 6 15 (bv 9 127) HT_ rfl rfl ?_
  refine pu 7 4 (bv 9 255) HT_ rfl rfl ?_
  refine pu 8 5 (bv 9 511) HT_ rfl rfl ?_
  refine yO (xS HT_.out (by kernel_rfl)) ?_
  try go_wp2
  go_ret2
  exact ⟨_, re, rU HO175.out, bl⟩
 ·replace c4 := Bool.eq_false_iff.mpr c4
  subst c4
  rw [if_neg Bool.false_ne_true] at H
  simp only [Option.some.injEq, Prod.mk.injEq] at H
  obtain ⟨rfl, rfl⟩ := H
  go_enter Tryd.func58, Tryd.ntmps58
  go_wp2_with (first | ((with_reducible refine gd 3 rfl ?_); refine bx 3 #[.bool a1_0, .int .i64 a1_1] 64 rfl rfl ?_; intro gb168 hg w13 hbox hb; have n_ := aC (bs hb) (aC hbox (aC (gz hg) (aE (gz hg)))); clear HB; obtain ⟨HB, BK168, GW168, GE168⟩ := n_; clear hb hbox hg) | (refine gF 86 7 Tryd.func86 #[.slice A0 l0.length c0] rfl rfl ?_; (with_reducible refine (xa.calls k _ _ l0 false _ ?side1 ?side2 A3.out).mono ?_); (case side1 => exact cU (Kd.wO HR0.out HB.out)); (case side2 => exact HC0.out); rintro e w14 ⟨rfl, hb⟩; refine ⟨_, rfl, ?_⟩; have n_ := aC (vu (bU BK168.out) hb) (aE (bs hb)); clear BK168 HB; obtain ⟨BK168, HB⟩ := n_))
  go_ret2
  exact ⟨_, re, by first | exact Kd.yC _ _ _ _ _ | exact Kd.za _ _ _ _ _ | exact Kd.y9 _ _ _ _ _ | exact Kd.zb _ _ _ _ _ | exact Kd.yZ _ _ _ _ _, bl⟩
def yJ.f (a0 : Int) : Option ((List (xc))) := if a0 = 0 then (some (([(⟨2, 2, 0, 0⟩ : xc), (⟨2, 3, 4, 0⟩ : xc), (⟨2, 4, 12, 0⟩ : xc), (⟨2, 6, 28, 0⟩ : xc)] : List (xc)))) else (some (([(⟨1, 1, 0, 0⟩ : xc), (⟨2, 1, 2, 0⟩ : xc), (⟨3, 2, 4, 0⟩ : xc), (⟨3, 6, 8, 0⟩ : xc)] : List (xc))))
set_option maxHeartbeats 8000000 in
set_option maxRecDepth 100000 in
theorem yJ.calls (a0 : Int) (r : List (xc)) (w : World) (h : yJ.f a0 = some r) :
  Calls Tryd.prog 59 #[.int .i64 a0] w fun e w' => ∃ v0_ : Value, e = .returned (v0_) ∧ Kd.R zh 87 w' w.heap.size (fun _ => True) v0_ r ∧ Below w.heap.size w w' := by
 have hu87 := Tryd.underlying87
 have HB := Aside0.mk (Below.refl w.heap.size w)
 have H := h
 unfold yJ.f at H
 clear h
 rcases iE H with H1 | H1 <;> clear H <;> obtain ⟨H, c2b0, c2b1, c2⟩ := H1
 ·obtain ⟨y177, hy_⟩ : ∃ y_ : List (xc), y_ = (([(⟨2, 2, 0, 0⟩ : xc), (⟨2, 3, 4, 0⟩ : xc), (⟨2, 4, 12, 0⟩ : xc), (⟨2, 6, 28, 0⟩ : xc)] : List (xc))) := ⟨_, rfl⟩
  replace H : (some y177) = some r := rh
  have Ny177 := aE hy_
  clear hy_
  obtain rfl := Option.some.inj H
  go_enter Tryd.func59, Tryd.ntmps59
  go_wp2_with (first | ((with_reducible refine gd 9 rfl ?_); refine Kd.zV zh _ 87 ?hg (N := 9) ?hd (xs := ([(⟨2, 2, 0, 0⟩ : xc), (⟨2, 3, 4, 0⟩ : xc), (⟨2, 4, 12, 0⟩ : xc), (⟨2, 6, 28, 0⟩ : xc)] : List (xc))) (inner := [.int .i64 2, .int .i64 2, .int .i64 0, .int .i64 0, .int .i64 2, .int .i64 3, .int .i64 4, .int .i64 0, .int .i64 2, .int .i64 4, .int .i64 12, .int .i64 0, .int .i64 2, .int .i64 6, .int .i64 28, .int .i64 0]) (ok := fun _ => True) (okp := fun _ => True) ?hr ?hp (fun _ hk => hk) trivial (Below.refl _ _) (Nat.le_refl _) (by simp) ?_; (case hd => rfl); (case hg => rfl); (case hr => first | (go_simp; done) | (go_simp; rfl)); (case hp => exact (wX.c4 (show Kd.M zh _ _ _ (⟨2, 2, 0, 0⟩ : xc) [.int .i64 2, .int .i64 2, .int .i64 0, .int .i64 0] from (xH _ _ _ (⟨2, 2, 0, 0⟩ : xc) )) (wX.c4 (show Kd.M zh _ _ _ (⟨2, 3, 4, 0⟩ : xc) [.int .i64 2, .int .i64 3, .int .i64 4, .int .i64 0] from (xH _ _ _ (⟨2, 3, 4, 0⟩ : xc) )) (wX.c4 (show Kd.M zh _ _ _ (⟨2, 4, 12, 0⟩ : xc) [.int .i64 2, .int .i64 4, .int .i64 12, .int .i64 0] from (xH _ _ _ (⟨2, 4, 12, 0⟩ : xc) )) (wX.c4 (show Kd.M zh _ _ _ (⟨2, 6, 28, 0⟩ : xc) [.int .i64 2, .int .i64 6, .int .i64 28, .int .i64 0] from (xH _ _ _ (⟨2, 6, 28, 0⟩ : xc) )) (wX.none _ _)))))); intro v178 w3 ho4 hb hg_ hnew_; clear hg_ hnew_; (first | rw [← Ny177.out] at ho4 | (simp only [Int.reduceToNat] at ho4; rw [← Ny177.out] at ho4)); have n_ := aC (Kd.vX ho4 bz) (aE (bs hb)); clear HB; obtain ⟨HO179, HB⟩ := n_; clear hb ho4))
  go_ret
  exact ⟨_, re, rU HO179.out, bl⟩
 ·obtain ⟨y180, hy_⟩ : ∃ y_ : List (xc), y_ = (([(⟨1, 1, 0, 0⟩ : xc), (⟨2, 1, 2, 0⟩ : xc), (⟨3, 2, 4, 0⟩ : xc), (⟨3, 6, 8, 0⟩ : xc)] : List (xc))) := ⟨_, rfl⟩
  replace H : (some y180) = some r := rh
  have Ny180 := aE hy_
  clear hy_
  obtain rfl := Option.some.inj H
  go_enter Tryd.func59, Tryd.ntmps59
  go_wp2_with (first | ((with_reducible refine gd 14 rfl ?_); refine Kd.zV zh _ 87 ?hg (N := 14) ?hd (xs := ([(⟨1, 1, 0, 0⟩ : xc), (⟨2, 1, 2, 0⟩ : xc), (⟨3, 2, 4, 0⟩ : xc), (⟨3, 6, 8, 0⟩ : xc)] : List (xc))) (inner := [.int .i64 1, .int .i64 1, .int .i64 0, .int .i64 0, .int .i64 2, .int .i64 1, .int .i64 2, .int .i64 0, .int .i64 3, .int .i64 2, .int .i64 4, .int .i64 0, .int .i64 3, .int .i64 6, .int .i64 8, .int .i64 0]) (ok := fun _ => True) (okp := fun _ => True) ?hr ?hp (fun _ hk => hk) trivial (Below.refl _ _) (Nat.le_refl _) (by simp) ?_; (case hd => rfl); (case hg => rfl); (case hr => first | (go_simp; done) | (go_simp; rfl)); (case hp => exact (wX.c4 (show Kd.M zh _ _ _ (⟨1, 1, 0, 0⟩ : xc) [.int .i64 1, .int .i64 1, .int .i64 0, .int .i64 0] from (xH _ _ _ (⟨1, 1, 0, 0⟩ : xc) )) (wX.c4 (show Kd.M zh _ _ _ (⟨2, 1, 2, 0⟩ : xc) [.int .i64 2, .int .i64 1, .int .i64 2, .int .i64 0] from (xH _ _ _ (⟨2, 1, 2, 0⟩ : xc) )) (wX.c4 (show Kd.M zh _ _ _ (⟨3, 2, 4, 0⟩ : xc) [.int .i64 3, .int .i64 2, .int .i64 4, .int .i64 0] from (xH _ _ _ (⟨3, 2, 4, 0⟩ : xc) )) (wX.c4 (show Kd.M zh _ _ _ (⟨3, 6, 8, 0⟩ : xc) [.int .i64 3, .int .i64 6, .int .i64 8, .int .i64 0] from (xH _ _ _ (⟨3, 6, 8, 0⟩ : xc) )) (wX.none _ _)))))); intro v181 w5 ho6 hb hg_ hnew_; clear hg_ hnew_; (first | rw [← Ny180.out] at ho6 | (simp only [Int.reduceToNat] at ho6; rw [← Ny180.out] at ho6)); have n_ := aC (Kd.vX ho6 bz) (aE (bs hb)); clear HB; obtain ⟨HO182, HB⟩ := n_; clear hb ho6))
  go_ret
  exact ⟨_, re, rU HO182.out, bl⟩
end Go.Proofs.YtknclbodinfbeaaDoor.PRunsSame
