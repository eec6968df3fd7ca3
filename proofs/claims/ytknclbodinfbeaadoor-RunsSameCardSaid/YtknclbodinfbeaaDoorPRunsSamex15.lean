-- printed (wip/tools/myprint.py)
import Derived.Test.YtknclbodinfbeaaDoorPRunsSamex0
import Derived.Test.YtknclbodinfbeaaDoorPRunsSamex1
import Derived.Test.YtknclbodinfbeaaDoorPRunsSamex2
import Derived.Test.YtknclbodinfbeaaDoorPRunsSamex3
import Derived.Test.YtknclbodinfbeaaDoorPRunsSamex14
namespace Go.Proofs.YtknclbodinfbeaaDoor.PRunsSame
open Go.RowKit Go.Proofs.YtknclbodinfbeaaDoorW.PrintWords Go.Proofs.YtknclbodinfbeaaDoorW.PrintLast Go.Proofs.YtknclbodinfbeaaDoorW.PrintMore
attribute [local go_sem] yf yc yD yE xV xU ye yh
set_option linter.unusedVariables false
set_option linter.unusedSimpArgs false
mutual
def wN.j0 : Nat → Int → Int → Int → Bool → Option (Int × Int × List Int × Int)
 | 0, _, _, _, _ => none
 | k + 1, x0, x1, x2, x24 => if x24 = true then (some (0, 0, ([] : List Int), 2)) else ((zd.f x0 x1).bind fun bt500 => (wN.l0 k x2 bt500.2.2.2 (bt500.2.2.1.length : Int) 0 bt500.1 bt500.2.1 bt500.2.2.1))
def wN.l0 : Nat → Int → Int → Int → Int → Int → Int → List Int → Option (Int × Int × List Int × Int)
 | 0, _, _, _, _, _, _, _ => none
 | k + 1, x2, x9, x34, x35, x507000, x507001, x507002 => if x35 < x34 then (if 0 ≤ x35 then (if x35 < (x507002.length : Int) then (wN.l0 k x2 x9 x34 (wrap64 (x35 + 1)) x507000 x507001 (x507002.set (x35 : Int).toNat ((x2) % 256))) else (none)) else (none)) else (some (x507000, x507001, x507002, x9))
end
def wN.f (k : Nat) (a0 : Int) (a1 : Int) (a2 : Int) : Option (Int × Int × List Int × Int) := if a0 < 0 then (wN.j0 k a0 a1 a2 true) else (if a1 < 0 then (wN.j0 k a0 a1 a2 true) else (if a2 = 0 then (wN.j0 k a0 a1 a2 false) else (wN.j0 k a0 a1 a2 (a2 != 1))))
theorem wN.wj : ∀ k, (∀ y0 y1 y2 y3, vP (wN.j0 k y0 y1 y2 y3) (wN.j0 (k + 1) y0 y1 y2 y3)) ∧ (∀ y0 y1 y2 y3 y4 y5 y6, vP (wN.l0 k y0 y1 y2 y3 y4 y5 y6) (wN.l0 (k + 1) y0 y1 y2 y3 y4 y5 y6))
 | 0 => ⟨fun _ _ _ _ r h => by simp [wN.j0] at h, fun _ _ _ _ _ _ _ r h => by simp [wN.l0] at h⟩
 | k + 1 => by
  obtain ⟨ih0, ih1⟩ := wN.wj k
  refine ⟨?_, ?_⟩
  ·intro y0 y1 y2 y3
   unfold wN.j0
   repeat' first
   | (with_reducible exact ih0 _ _ _ _)
   | (with_reducible exact ih1 _ _ _ _ _ _ _)
   | (with_reducible first | exact vP.refl _ | exact vP.none _ | apply vP.ite | refine vP.bind ?_ fun _ => ?_)
  ·intro y0 y1 y2 y3 y4 y5 y6
   unfold wN.l0
   repeat' first
   | (with_reducible exact ih0 _ _ _ _)
   | (with_reducible exact ih1 _ _ _ _ _ _ _)
   | (with_reducible first | exact vP.refl _ | exact vP.none _ | apply vP.ite | refine vP.bind ?_ fun _ => ?_)
theorem wN.mono : ∀ a0 a1 a2 k, vP (wN.f k a0 a1 a2) (wN.f (k + 1) a0 a1 a2) := by
 intro a0 a1 a2 k
 obtain ⟨ih0, ih1⟩ := wN.wj k
 unfold wN.f
 repeat' first
   | (with_reducible exact ih0 _ _ _ _)
   | (with_reducible exact ih1 _ _ _ _ _ _ _)
   | (with_reducible first | exact vP.refl _ | exact vP.none _ | apply vP.ite | refine vP.bind ?_ fun _ => ?_)
set_option maxHeartbeats 8000000 in
set_option maxRecDepth 100000 in
theorem wN.calls (k : Nat) (a0 : Int) (a1 : Int) (a2 : Int) (r1 : Int) (r2 : Int) (r3 : List Int) (r4 : Int) (w : World) (h : wN.f k a0 a1 a2 = some (r1, r2, r3, r4)) :
  Calls Tryd.prog 78 #[.int .i64 a0, .int .i64 a1, .int .i64 a2] w fun e w' => ∃ v2_ : Value, e = .returned (.tuple #[.agg #[.int .i64 r1, .int .i64 r2, v2_], .int .i64 r4]) ∧ Kd.R (Kd.int .u8) 5 w' w.heap.size (fun _ => True) v2_ r3 ∧ Below w.heap.size w w' := by
 have hu48 := Tryd.underlying48
 have HB := Aside0.mk (Below.refl w.heap.size w)
 have H := h
 unfold wN.f at H
 clear h
 have HC4 := Aside0.mk H
 clear H
 go_enter Tryd.func78, Tryd.ntmps78
 go_upto_region 1 with (first | ((with_reducible refine gd 6 rfl ?_); refine bx 6 #[.int .i64 0, .int .i64 0, .slice none 0 0] 48 rfl rfl ?_; intro gb499 hg w5 hbox hb; have n_ := aC (bs hb) (aC hbox (aC (gz hg) (aE (gz hg)))); clear HB; obtain ⟨HB, BK499, GW499, GE499⟩ := n_; clear hb hbox hg))
 (try simp only [Act.put, List.setIfInBounds_toArray, List.set_cons_zero, List.set_cons_succ])
 go_cut [24] (fun v24 wc => ∃ (kq : Nat) (x24_3 : Bool), v24 = .bool x24_3 ∧ Aside0 (wN.j0 kq a0 a1 a2 x24_3 = some (r1, r2, r3, r4)) ∧ Aside0 (kq ≤ k) ∧ Aside0 (wc.heap[gb499]? = some (.cells #[.int .i64 0, .int .i64 0, (.slice none 0 0)] 48 (0, 0))) ∧ Aside0 (Below w.heap.size w wc))
 case first =>
  have H := HC4.out
  clear HC4
  rcases iL H with H1 | H1 <;> clear H <;> obtain ⟨H, c6b0⟩ := H1
  ·(first | rw [c6b0] | (simp only [xD, zm]; rw [c6b0]) | skip)
   have H' := Aside0.mk H
   clear H
   go_wp2
   go_meet
   case rel => exact ⟨_, (true), rq, H', ⟨by first | omega | exact Nat.le_refl _⟩, ⟨bU BK499.out⟩, ⟨bl⟩⟩
  ·(first | rw [c6b0] | (simp only [xD, zm]; rw [c6b0]) | skip)
   rcases iL H with H1 | H1 <;> clear H <;> obtain ⟨H, c7b0⟩ := H1
   ·have H' := Aside0.mk H
    clear H
    go_wp2
    go_meet
    case rel => exact ⟨_, (true), rq, H', ⟨by first | omega | exact Nat.le_refl _⟩, ⟨bU BK499.out⟩, ⟨bl⟩⟩
   ·rcases iE H with H1 | H1 <;> clear H <;> obtain ⟨H, c8b0, c8b1, c8⟩ := H1
    ·have H' := Aside0.mk H
     clear H
     go_wp2
     go_meet
     case rel => exact ⟨_, (false), rq, H', ⟨by first | omega | exact Nat.le_refl _⟩, ⟨bU BK499.out⟩, ⟨bl⟩⟩
    ·have H' := Aside0.mk H
     clear H
     go_wp2
     go_meet
     case rel => exact ⟨_, ((a2 != 1)), rq, H', ⟨by first | omega | exact Nat.le_refl _⟩, ⟨bU BK499.out⟩, ⟨bl⟩⟩
 case rest =>
  clear HC4
  obtain ⟨kq, x24_3, rfl, HA, HJ3, BK499, HB⟩ := hcut
  cases kq with
  | zero => exact absurd HA.out (by simp [wN.j0])
  | succ kj3 =>
   have H := HA.out
   clear HA
   simp only [wN.j0] at H
   by_cases c9 : x24_3 = true
   ·subst c9
    rw [if_pos rfl] at H
    simp only [Option.some.injEq, Prod.mk.injEq] at H
    obtain ⟨rfl, rfl, rfl, rfl⟩ := H
    obtain ⟨hcz10_0, hcz10_1, hcz10_2, hfz10_0, hfz10_1, hfz10_2⟩ := zo BK499.out
    go_wp2
    refine bodyPost_ret (jw rfl _ _ gb499 48 #[.int .i64 0, .int .i64 0, .slice none 0 0] (0, 0) _ rfl (by (with_reducible repeat first | apply vl | apply vn | apply vm); refine vv (cs := #[.int .i64 0, .int .i64 0, .slice none 0 0]) ?_ 2 _ rfl; (with_reducible repeat first | apply vl | apply vn | apply vm); refine vv (cs := #[.int .i64 0, .int .i64 0, .slice none 0 0]) ?_ 1 _ rfl; (with_reducible repeat first | apply vl | apply vn | apply vm); refine vv (cs := #[.int .i64 0, .int .i64 0, .slice none 0 0]) ?_ 0 _ rfl; (with_reducible repeat first | apply vl | apply vn | apply vm); exact BK499.out) Tryd.underlying48 rfl (by kernel_rfl)) rfl ?_
    exact ⟨_, re, by first | exact Kd.yC _ _ _ _ _ | exact Kd.za _ _ _ _ _ | exact Kd.y9 _ _ _ _ _ | exact Kd.zb _ _ _ _ _ | exact Kd.yZ _ _ _ _ _, bl⟩
   ·replace c9 := Bool.eq_false_iff.mpr c9
    subst c9
    rw [if_neg Bool.false_ne_true] at H
    obtain ⟨⟨t500, t501, t502, t505⟩, A11, H⟩ := oB H
    try dsimp only at H
    have H' := Aside0.mk H
    clear H
    go_wp2_with (first | (refine gF 94 29 Tryd.func94 #[.int .i64 a0, .int .i64 a1] rfl rfl ?_; (with_reducible refine (zd.calls a0 a1 t500 t501 t502 t505 _ A11.out).mono ?_); rintro e w12 ⟨v503, rfl, ho0, hb⟩; refine ⟨_, rfl, ?_⟩; have n_ := aC (Kd.vX ho0 bz) (aC (vu (bU BK499.out) hb) (aE (bs hb))); clear BK499 HB; obtain ⟨HO504, BK499, HB⟩ := n_) | ((with_reducible refine gd 8 rfl ?_); refine bx 8 #[.int .i64 0, .int .i64 0, .slice none 0 0] 48 rfl rfl ?_; intro gb506 hg w13 hbox hb; have n_ := aC (Kd.vT (rU HO504.out) hb) (aC (vu (bU BK499.out) hb) (aC (bs hb) (aC hbox (aC (gz hg) (aC (gz hg) (aC (gn hg (bU BK499.out)) (aE (gm hg (bU BK499.out))))))))); clear HO504 BK499 HB; obtain ⟨HO504, BK499, HB, BK506, GW506, GE506, NB499_506, NB506_499⟩ := n_; clear hb hbox hg; have hnb14 := NB506_499.out; have hnc14 := NB499_506.out; obtain ⟨hcz15_0, hcz15_1, hcz15_2, hfz15_0, hfz15_1, hfz15_2⟩ := zo BK506.out; obtain ⟨Ao16, co16, eo16⟩ := Kd.wq HO504.out; subst eo16))
    go_loopg [35] kj3 (fun kq v35 w' => ∃ (x35_2 : Int) (x507002_2 : List Int) (u507002 : Value), v35 = .int .i64 x35_2 ∧ Aside0 (wN.l0 kq a2 t505 (t502.length : Int) x35_2 t500 t501 x507002_2 = some (r1, r2, r3, r4)) ∧ Aside0 (kq ≤ kj3) ∧ Aside0 (Kd.R (Kd.int .u8) 5 w' w.heap.size (fun _ => True) u507002 x507002_2) ∧ Aside0 (w'.heap[gb499]? = some (.cells #[.int .i64 0, .int .i64 0, (.slice none 0 0)] 48 (0, 0))) ∧ Aside0 (w'.heap[gb506]? = some (.cells #[.int .i64 t500, .int .i64 t501, u507002] 48 (0, 0))) ∧ Aside0 (Below w.heap.size w w'))
    case atStart => exact ⟨(0), (t502), (.slice Ao16 t502.length co16), rq, H', ⟨Nat.le_refl _⟩, ⟨rU (Kd.vY (Kd.wI (p := ⟨gb506, 2, none⟩) (Kd.wI (p := ⟨gb506, 1, none⟩) (Kd.wI (p := ⟨gb506, 0, none⟩) (Kd.xu HO504.out BK506.out (by decide)) (fun _ hk => hk.2) (.int .i64 t500)) (fun _ hk => hk.2) (.int .i64 t501)) (fun _ hk => hk.2) (.slice Ao16 t502.length co16)) (fun _ hk => trivial))⟩, ⟨by (with_reducible repeat first | apply vl | apply vn | apply vm); refine vV ?_ NB499_506.out _; (with_reducible repeat first | apply vl | apply vn | apply vm); refine vV ?_ NB499_506.out _; (with_reducible repeat first | apply vl | apply vn | apply vm); refine vV ?_ NB499_506.out _; (with_reducible repeat first | apply vl | apply vn | apply vm); exact BK499.out⟩, ⟨by (with_reducible repeat first | apply vl | apply vn | apply vm); refine vv (cs := #[.int .i64 t500, .int .i64 t501, .slice none 0 0]) ?_ 2 _ rfl; (with_reducible repeat first | apply vl | apply vn | apply vm); refine vv (cs := #[.int .i64 t500, .int .i64 0, .slice none 0 0]) ?_ 1 _ rfl; (with_reducible repeat first | apply vl | apply vn | apply vm); refine vv (cs := #[.int .i64 0, .int .i64 0, .slice none 0 0]) ?_ 0 _ rfl; (with_reducible repeat first | apply vl | apply vn | apply vm); exact BK506.out⟩, ⟨bl⟩⟩
    case round =>
     clear H'
     obtain ⟨x35_2, x507002_2, u507002, rfl, HA, HK2, HO_507002, BK499, BK506, HB⟩ := hrel
     cases gk with
     | zero => exact absurd HA.out (by simp [wN.l0])
     | succ k2 =>
      have H := HA.out
      clear HA
      simp only [wN.l0] at H
      rcases iL H with H1 | H1 <;> clear H <;> obtain ⟨H, c17b0⟩ := H1
      ·by_cases c18 : 0 ≤ x35_2
       ·rw [if_pos c18] at H
        have c18b0 := decide_eq_true c18
        clear c18
        by_cases c19 : x35_2 < (x507002_2.length : Int)
        ·rw [if_pos c19] at H
         have c19b0 := decide_eq_true c19
         clear c19
         obtain ⟨y507, hy_⟩ : ∃ y_ : List Int, y_ = (x507002_2.set (x35_2 : Int).toNat ((a2) % 256)) := ⟨_, rfl⟩
         replace H : (wN.l0 k2 a2 t505 (t502.length : Int) (wrap64 (x35_2 + 1)) t500 t501 y507) = some (r1, r2, r3, r4) := rh
         have Ny507 := aE hy_
         clear hy_
         have H' := Aside0.mk H
         clear H
         have hnb21 := NB506_499.out
         have hnc21 := NB499_506.out
         obtain ⟨hcz22_0, hcz22_1, hcz22_2, hfz22_0, hfz22_1, hfz22_2⟩ := zo BK506.out
         have p20 : 0 ≤ (x35_2 : Int) := dt
         have q20 : (x35_2 : Int) < ((x507002_2.length : Int) : Int) := dt
         obtain ⟨go20, co20, eo20, gb20, gl20, cl20, HG20⟩ := Kd.R_form HO_507002.out (by omega)
         (first | cases eo20 | (injection eo20 with ea_ en_ ec_; (first | subst ea_ | (injection ea_ with ea_; subst ea_)); subst ec_; clear en_))
         have GB20 := Aside0.mk gb20
         have GG20 := Aside0.mk HG20
         clear gb20 gl20 HG20
         obtain ⟨hx20_0, hf20_0⟩ := Kd.R_celln 0 HO_507002.out (x35_2 : Int) p20 q20
         replace p20 := eq_true p20
         replace q20 := eq_true q20
         have HP23 := Kd.R_putg HO_507002.out (x35_2 : Int) ((a2) % 256)
         go_wp2_with (first | ((with_reducible refine zp (t := 5) (p := 43) rfl ?_); refine yY (t := 5) (p := 43) (v := ?vo_w24) (w1 := (wr.setCell ⟨go20, (x35_2 : Int).toNat, none⟩ (.int .u8 ((a2) % 256)))) ?hg ?ho ?hn ?hr ?_; (case ho => rfl); (case hg => rfl); (case hn => rfl); (case hr => first | (go_simp; done) | (go_simp; rfl)); intro w24 hw; have hg : wr.grownBy w24 (some go20) := (by rw [hw]; exact HP23.2); have hp_ : Kd.R (Kd.int .u8) 5 w24 w.heap.size (fun _ => True) (.slice (some ⟨go20, 0, none⟩) x507002_2.length co20) y507 := (by rw [hw, Ny507.out]; exact HP23.1); clear HP23; have n_ := aC hp_ (aC (xx (bU BK499.out) hg (Kd.jh HO_507002.out BK499.out (by decide))) (aC (xx (bU BK506.out) hg (Kd.jh HO_507002.out BK506.out (by decide))) (aE ((by rw [hw]; exact wk (HB.out) GB20.out : Below w.heap.size w w24))))); clear HO_507002 BK499 BK506 HB; obtain ⟨HO_507002, BK499, BK506, HB⟩ := n_; clear hg hw hp_))
         go_roundg k2
         case measure => have := HJ3.out; have := HK2.out; omega
         case rel => exact ⟨(wrap64 (x35_2 + 1)), (y507), (.slice (some ⟨go20, 0, none⟩) x507002_2.length co20), rq, H', ⟨by have := HJ3.out; have := HK2.out; omega⟩, ⟨rU HO_507002.out⟩, ⟨bU BK499.out⟩, ⟨bU BK506.out⟩, ⟨bl⟩⟩
        ·rw [if_neg c19] at H
         exact absurd H (by simp)
       ·rw [if_neg c18] at H
        exact absurd H (by simp)
      ·simp only [Option.some.injEq, Prod.mk.injEq] at H
       obtain ⟨rfl, rfl, rfl, rfl⟩ := H
       have hnb25 := NB506_499.out
       have hnc25 := NB499_506.out
       obtain ⟨hcz26_0, hcz26_1, hcz26_2, hfz26_0, hfz26_1, hfz26_2⟩ := zo BK506.out
       obtain ⟨hcz27_0, hcz27_1, hcz27_2, hfz27_0, hfz27_1, hfz27_2⟩ := zo BK499.out
       obtain ⟨Ao28, co28, eo28⟩ := Kd.wq HO_507002.out
       subst eo28
       go_wp2
       refine bodyPost_ret (jw rfl _ _ gb499 48 #[.int .i64 t500, .int .i64 t501, .slice Ao28 x507002_2.length co28] (0, 0) _ rfl (by (with_reducible repeat first | apply vl | apply vn | apply vm); refine vv (cs := #[.int .i64 t500, .int .i64 t501, .slice none 0 0]) ?_ 2 _ rfl; (with_reducible repeat first | apply vl | apply vn | apply vm); refine vv (cs := #[.int .i64 t500, .int .i64 0, .slice none 0 0]) ?_ 1 _ rfl; (with_reducible repeat first | apply vl | apply vn | apply vm); refine vv (cs := #[.int .i64 0, .int .i64 0, .slice none 0 0]) ?_ 0 _ rfl; (with_reducible repeat first | apply vl | apply vn | apply vm); exact BK499.out) Tryd.underlying48 rfl (by kernel_rfl)) rfl ?_
       exact ⟨_, re, rU (Kd.vY (Kd.wI (p := ⟨gb499, 2, none⟩) (Kd.wI (p := ⟨gb499, 1, none⟩) (Kd.wI (p := ⟨gb499, 0, none⟩) (Kd.xu HO_507002.out BK499.out (by decide)) (fun _ hk => hk.2) (.int .i64 t500)) (fun _ hk => hk.2) (.int .i64 t501)) (fun _ hk => hk.2) (.slice Ao28 x507002_2.length co28)) (fun _ hk => trivial)), bl⟩
def xh.l0 : Nat → List (List Int) → List (zJ) → Int → Int → Option ((List (List Int)) × Int)
 | 0, _, _, _, _ => none
 | k + 1, x4, x11, x12, x13 => if x13 < x12 then (if 0 ≤ x13 then (if x13 < (x11.length : Int) then ((wM.f k ((xQ x11 x13).f0) ((xQ x11 x13).f1)).bind fun t521 => (if x4.length < 5864062014805 then (xh.l0 k (x4 ++ [t521]) x11 x12 (wrap64 (x13 + 1))) else (none))) else (none)) else (none)) else (some (x4, 0))
def xh.f (k : Nat) (l0 : List (xc)) : Option ((List (List Int)) × Int) := (xa.f k l0).bind fun t515 => (if t515 = true then ((wv.f k l0).bind fun t516 => (xh.l0 k ([] : List (List Int)) t516 (t516.length : Int) 0)) else (some (([] : List (List Int)), 20)))
theorem xh.wj : ∀ k, (∀ y0 y1 y2 y3, vP (xh.l0 k y0 y1 y2 y3) (xh.l0 (k + 1) y0 y1 y2 y3))
 | 0 => fun _ _ _ _ r h => by simp [xh.l0] at h
 | k + 1 => by
  have ih0 := xh.wj k
  ·intro y0 y1 y2 y3
   unfold xh.l0
   repeat' first
   | (with_reducible exact ih0 _ _ _ _)
   | (with_reducible exact xa.mono _ _)
   | (with_reducible exact wv.mono _ _)
   | (with_reducible exact wM.mono _ _ _)
   | (with_reducible first | exact vP.refl _ | exact vP.none _ | apply vP.ite | refine vP.bind ?_ fun _ => ?_)
theorem xh.mono : ∀ a0 k, vP (xh.f k a0) (xh.f (k + 1) a0) := by
 intro a0 k
 have ih0 := xh.wj k
 unfold xh.f
 repeat' first
   | (with_reducible exact ih0 _ _ _ _)
   | (with_reducible exact xa.mono _ _)
   | (with_reducible exact wv.mono _ _)
   | (with_reducible exact wM.mono _ _ _)
   | (with_reducible first | exact vP.refl _ | exact vP.none _ | apply vP.ite | refine vP.bind ?_ fun _ => ?_)
set_option maxHeartbeats 8000000 in
set_option maxRecDepth 100000 in
theorem xh.calls (k : Nat) (A0 : Option Addr) (c0 : Nat) (l0 : List (xc)) (r1 : List (List Int)) (r2 : Int) (w : World) (hr0 : Kd.C zh w A0 l0.length l0) (hc0 : l0.length ≤ c0) (h : xh.f k l0 = some (r1, r2)) :
  Calls Tryd.prog 113 #[.slice A0 l0.length c0] w fun e w' => ∃ v0_ : Value, e = .returned (.tuple #[v0_, .int .i64 r2]) ∧ Kd.S (Kd.slice 5 (Kd.int .u8)) 22 w' w.heap.size (fun _ => True) v0_ r1 ∧ Below w.heap.size w w' := by
 have hu154 := Tryd.underlying154
 have HR0 := Aside0.mk hr0
 have HC0 := Aside0.mk hc0
 clear hr0 hc0
 have HB := Aside0.mk (Below.refl w.heap.size w)
 have H := h
 unfold xh.f at H
 clear h
 obtain ⟨t515, A2, H⟩ := oB H
 try dsimp only at H
 by_cases c3 : t515 = true
 ·subst c3
  rw [if_pos rfl] at H
  obtain ⟨t516, A4, H⟩ := oB H
  try dsimp only at H
  have H' := Aside0.mk H
  clear H
  go_enter Tryd.func113, Tryd.ntmps113
  go_wp2_with (first | (refine gF 86 8 Tryd.func86 #[.slice A0 l0.length c0] rfl rfl ?_; (with_reducible refine (xa.calls k _ _ l0 true _ ?side1 ?side2 A2.out).mono ?_); (case side1 => exact cU HR0.out); (case side2 => exact HC0.out); rintro e w5 ⟨rfl, hb⟩; refine ⟨_, rfl, ?_⟩; have n_ := aE (bs hb); clear HB; have HB := n_; clear n_) | (refine gF 88 11 Tryd.func88 #[.slice A0 l0.length c0] rfl rfl ?_; (with_reducible refine (wv.calls k _ _ l0 t516 _ ?side1 ?side2 A4.out).mono ?_); (case side1 => exact cU (Kd.wO HR0.out HB.out)); (case side2 => exact HC0.out); rintro e w6 ⟨v517, rfl, ho0, hb⟩; refine ⟨_, rfl, ?_⟩; have n_ := aC (Kd.vX ho0 bz) (aE (bs hb)); clear HB; obtain ⟨HO518, HB⟩ := n_; obtain ⟨Ao7, co7, eo7⟩ := Kd.wq HO518.out; subst eo7))
  go_loopg [4, 13] k (fun kq v4 v13 w' => ∃ (x4_1 : List (List Int)) (x13_1 : Int), v13 = .int .i64 x13_1 ∧ Aside0 (xh.l0 kq x4_1 t516 (t516.length : Int) x13_1 = some (r1, r2)) ∧ Aside0 (kq ≤ k) ∧ Aside0 (Kd.S (Kd.slice 5 (Kd.int .u8)) 22 w' w.heap.size (fun _ => True) v4 x4_1) ∧ Aside0 (Kd.R jt 154 w' w.heap.size (fun _ => True) (.slice Ao7 t516.length co7) t516) ∧ Aside0 (Below w.heap.size w w'))
  case atStart => exact ⟨(([] : List (List Int))), (0), rq, H', ⟨Nat.le_refl _⟩, ⟨by first | exact Kd.yZ _ _ _ _ _ | exact Kd.za _ _ _ _ _ | exact Kd.y9 _ _ _ _ _ | exact Kd.zb _ _ _ _ _ | exact Kd.yC _ _ _ _ _⟩, ⟨rU HO518.out⟩, ⟨bl⟩⟩
  case round =>
   clear H'
   obtain ⟨x4_1, x13_1, rfl, HA, HK1, HO_4, HO_11, HB⟩ := hrel
   cases gk with
   | zero => exact absurd HA.out (by simp [xh.l0])
   | succ k1 =>
    have H := HA.out
    clear HA
    simp only [xh.l0] at H
    rcases iL H with H1 | H1 <;> clear H <;> obtain ⟨H, c8b0⟩ := H1
    ·by_cases c9 : 0 ≤ x13_1
     ·rw [if_pos c9] at H
      have c9b0 := decide_eq_true c9
      clear c9
      by_cases c10 : x13_1 < (t516.length : Int)
      ·rw [if_pos c10] at H
       have c10b0 := decide_eq_true c10
       clear c10
       obtain ⟨t521, A11, H⟩ := oB H
       try dsimp only at H
       by_cases c12 : x4_1.length < 5864062014805
       ·rw [if_pos c12] at H
        have LMc12 := Aside0.mk c12
        clear c12
        obtain ⟨y524, hy_⟩ : ∃ y_ : List (List Int), y_ = (x4_1 ++ [t521]) := ⟨_, rfl⟩
        replace H : (xh.l0 k1 y524 t516 (t516.length : Int) (wrap64 (x13_1 + 1))) = some (r1, r2) := rh
        have Ny524 := aE hy_
        clear hy_
        have H' := Aside0.mk H
        clear H
        have p519 : 0 ≤ (x13_1 : Int) := dt
        have q519 : x13_1 < (t516.length : Int) := dt
        obtain ⟨ad519, e519, hx519_0, hx519_1⟩ := at_T154 (Kd.R_reads' HO_11.out).2.2 x13_1 p519 q519
        cases e519
        replace p519 := eq_true p519
        replace q519 := eq_true q519
        go_wp2_with (first | ((with_reducible refine gd 6 rfl ?_); refine bx 6 #[.int .i64 0, .int .i64 0] 154 rfl rfl ?_; intro gb520 hg w13 hbox hb; have n_ := aC (Kd.jj (by (with_reducible repeat (first | apply Kd.xP | apply Kd.xM | apply Kd.yn)); exact HO_4.out) hb) (aC (Kd.vT (Kd.jI (rU HO_11.out) gb520 (Nat.le_of_eq hg.symm)) hb) (aC (bs hb) (aC hbox (aC (gz hg) (aE (gz hg)))))); clear HO_4 HO_11 HB; obtain ⟨HO_4, HO_11, HB, BK520, GW520, GE520⟩ := n_; clear hb hbox hg; obtain ⟨hcz14_0, hcz14_1, hfz14_0, hfz14_1⟩ := yt BK520.out) | (refine gF 108 22 Tryd.func108 #[.int .i64 ((xQ t516 x13_1).f0), .int .i64 ((xQ t516 x13_1).f1)] rfl rfl ?_; (with_reducible refine (wM.calls k1 ((xQ t516 x13_1).f0) ((xQ t516 x13_1).f1) t521 _ A11.out).mono ?_); rintro e w15 ⟨v522, rfl, ho0, hb⟩; refine ⟨_, rfl, ?_⟩; have n_ := aC (Kd.S_elder' (by (with_reducible repeat (first | apply Kd.xP | apply Kd.xM | apply Kd.yn)); exact (Kd.yR (Kd.zI (p := ⟨gb520, 1, none⟩) (Kd.zI (p := ⟨gb520, 0, none⟩) (Kd.S_types HO_4.out BK520.out (by decide)) (fun _ hk => hk.2) (.int .i64 ((xQ t516 x13_1).f0))) (fun _ hk => hk.2) (.int .i64 ((xQ t516 x13_1).f1))) (fun _ h_ => h_.1))) (Kd.xi ho0) hb) (aC (Kd.vT (rU (Kd.vY (Kd.wI (p := ⟨gb520, 1, none⟩) (Kd.wI (p := ⟨gb520, 0, none⟩) (Kd.vY HO_11.out (fun k_ hk => (⟨hk, hk.2⟩ : _ ∧ k_ ≠ gb520))) (fun _ hk => hk.2) (.int .i64 ((xQ t516 x13_1).f0))) (fun _ hk => hk.2) (.int .i64 ((xQ t516 x13_1).f1))) (fun _ h_ => h_.1))) hb) (aC (Kd.vX ho0 bz) (aC (vu (g := gb520) (o := .cells #[.int .i64 ((xQ t516 x13_1).f0), .int .i64 ((xQ t516 x13_1).f1)] 154 (0, 0)) (by (with_reducible repeat first | apply vl | apply vn | apply vm); refine vv (cs := #[.int .i64 ((xQ t516 x13_1).f0), .int .i64 0]) ?_ 1 _ rfl; (with_reducible repeat first | apply vl | apply vn | apply vm); refine vv (cs := #[.int .i64 0, .int .i64 0]) ?_ 0 _ rfl; (with_reducible repeat first | apply vl | apply vn | apply vm); exact BK520.out) hb) (aE (bs hb))))); clear HO_4 HO_11 BK520 HB; obtain ⟨HO_4, HO_11, HO523, BK520, HB⟩ := n_; obtain ⟨Ao17, co17, eo17⟩ := Kd.wq HO523.out; subst eo17) | ((with_reducible refine xb (b := .append) (xs := #[.tmp 17, .tmp 23]) rfl ?_); at_builtin; refine Kd.j5 (Kd.slice 5 (Kd.int .u8)) (w0 := w) w.heap.size rfl (.tmp 17) (.tmp 23) 73 22 (.slice none 0 0) 24 rfl Tryd.underlying73 info22 rfl (by decide) (by omega) u4 x4_1 t521 [.slice Ao17 t521.length co17] (fun _ => True) (fun k_ => some k_ = (.slice Ao17 t521.length co17 : Value).ownBlock) rfl rfl ?aP (fun k_ hk_ => ((Kd.vY (ok' := fun k_ => ((fun _ => True)) k_ ∧ some k_ ≠ (u4 : Value).ownBlock) (Kd.R_apart' (HO523.out) (Kd.z9 HO_4.out) (by decide)) (fun k_ hk => ⟨trivial, hk.2⟩))).1 k_ hk_.symm) ?aF ?aO ?aB ?aS ?aL ?_; (case aP => exact Kd.M_row (Kd.vY (Kd.kc rfl (Kd.vY (ok' := fun k_ => ((fun _ => True)) k_ ∧ some k_ ≠ (u4 : Value).ownBlock) (Kd.R_apart' (HO523.out) (Kd.z9 HO_4.out) (by decide)) (fun k_ hk => ⟨trivial, hk.2⟩))) (fun _ h_ => h_))); (case aB => exact bl); (case aF => exact (fun _ _ => trivial)); (case aO => exact (by (with_reducible repeat (first | apply Kd.xP | apply Kd.xM | apply Kd.yn)); exact Kd.yR HO_4.out (fun k_ hk => ⟨trivial, fun e_ => hk.2 e_⟩))); (case aS => exact bz); (case aL => have := LMc12.out; omega); intro v525 w16 ho hb hg hat; rw [← Ny524.out] at ho; have n_ := aC (Kd.R_over' (rU HO_11.out) (Kd.z9 (by (with_reducible repeat (first | apply Kd.xP | apply Kd.xM | apply Kd.yn)); exact HO_4.out)) (by decide) hg) (aC (xx (g := gb520) (o := .cells #[.int .i64 ((xQ t516 x13_1).f0), .int .i64 ((xQ t516 x13_1).f1)] 154 (0, 0)) (bU BK520.out) hg (Kd.S_ne HO_4.out BK520.out (by decide))) (aC hb (aE ho))); clear HO_11 BK520 HB HO_4 HO523; obtain ⟨HO_11, BK520, HB, HO526⟩ := n_; clear ho hb hg hat))
        go_roundg k1
        case measure => have := HK1.out; omega
        case rel => exact ⟨(y524), (wrap64 (x13_1 + 1)), rq, H', ⟨by have := HK1.out; omega⟩, ⟨by (with_reducible repeat (first | apply Kd.xP | apply Kd.xM | apply Kd.yn)); exact HO526.out⟩, ⟨rU (Kd.vY HO_11.out (fun _ hk => trivial))⟩, ⟨bl⟩⟩
       ·rw [if_neg c12] at H
        exact absurd H (by simp)
      ·rw [if_neg c10] at H
       exact absurd H (by simp)
     ·rw [if_neg c9] at H
      exact absurd H (by simp)
    ·simp only [Option.some.injEq, Prod.mk.injEq] at H
     obtain ⟨rfl, rfl⟩ := H
     go_wp2
     go_ret2
     exact ⟨_, re, by (with_reducible repeat (first | apply Kd.xP | apply Kd.xM | apply Kd.yn)); exact HO_4.out, bl⟩
 ·replace c3 := Bool.eq_false_iff.mpr c3
  subst c3
  rw [if_neg Bool.false_ne_true] at H
  simp only [Option.some.injEq, Prod.mk.injEq] at H
  obtain ⟨rfl, rfl⟩ := H
  go_enter Tryd.func113, Tryd.ntmps113
  go_wp2_with (first | (refine gF 86 8 Tryd.func86 #[.slice A0 l0.length c0] rfl rfl ?_; (with_reducible refine (xa.calls k _ _ l0 false _ ?side1 ?side2 A2.out).mono ?_); (case side1 => exact cU HR0.out); (case side2 => exact HC0.out); rintro e w18 ⟨rfl, hb⟩; refine ⟨_, rfl, ?_⟩; have n_ := aE (bs hb); clear HB; have HB := n_; clear n_))
  go_ret2
  exact ⟨_, re, by first | exact Kd.yZ _ _ _ _ _ | exact Kd.za _ _ _ _ _ | exact Kd.y9 _ _ _ _ _ | exact Kd.zb _ _ _ _ _ | exact Kd.yC _ _ _ _ _, bl⟩
mutual
def wH.l0 : Nat → List (List Int) → Int → Int → List (xc) → List ByteArray → Option ((List (xc)) × List ByteArray)
 | 0, _, _, _, _, _ => none
 | k + 1, x18, x19, x20, x529000, x529001 => if x20 < x19 then (if 0 ≤ x20 then (if x20 < (x18.length : Int) then (wH.l1 k (⟨#[]⟩ : ByteArray) x18 x19 x20 (yS x18 x20) ((yS x18 x20).length : Int) 0 x529000 x529001) else (none)) else (none)) else (some (x529000, x529001))
def wH.l1 : Nat → ByteArray → List (List Int) → Int → Int → List Int → Int → Int → List (xc) → List ByteArray → Option ((List (xc)) × List ByteArray)
 | 0, _, _, _, _, _, _, _, _, _ => none
 | k + 1, x8, x18, x19, x20, x24, x25, x26, x529000, x529001 => if x26 < x25 then (if 0 ≤ x26 then (if x26 < (x24.length : Int) then (if x8.size + (Utf8.encode (wrap32 (48 + (wrap32 (rd x24 x26))))).size ≤ 9223372036854775807 then (wH.l1 k (x8 ++ (Utf8.encode (wrap32 (48 + (wrap32 (rd x24 x26)))))) x18 x19 x20 x24 x25 (wrap64 (x26 + 1)) x529000 x529001) else (none)) else (none)) else (none)) else (if x529001.length < 8796093022208 then (wH.l0 k x18 x19 (wrap64 (x20 + 1)) x529000 (x529001 ++ [x8])) else (none))
end
def wH.f (k : Nat) (l0 : List (xc)) : Option ((List (xc)) × List ByteArray) := (xh.f k l0).bind fun bt529 => (wH.l0 k bt529.1 (bt529.1.length : Int) 0 l0 ([] : List ByteArray))
theorem wH.wj : ∀ k, (∀ y0 y1 y2 y3 y4, vP (wH.l0 k y0 y1 y2 y3 y4) (wH.l0 (k + 1) y0 y1 y2 y3 y4)) ∧ (∀ y0 y1 y2 y3 y4 y5 y6 y7 y8, vP (wH.l1 k y0 y1 y2 y3 y4 y5 y6 y7 y8) (wH.l1 (k + 1) y0 y1 y2 y3 y4 y5 y6 y7 y8))
 | 0 => ⟨fun _ _ _ _ _ r h => by simp [wH.l0] at h, fun _ _ _ _ _ _ _ _ _ r h => by simp [wH.l1] at h⟩
 | k + 1 => by
  obtain ⟨ih0, ih1⟩ := wH.wj k
  refine ⟨?_, ?_⟩
  ·intro y0 y1 y2 y3 y4
   unfold wH.l0
   repeat' first
   | (with_reducible exact ih0 _ _ _ _ _)
   | (with_reducible exact ih1 _ _ _ _ _ _ _ _ _)
   | (with_reducible exact xh.mono _ _)
   | (with_reducible first | exact vP.refl _ | exact vP.none _ | apply vP.ite | refine vP.bind ?_ fun _ => ?_)
  ·intro y0 y1 y2 y3 y4 y5 y6 y7 y8
   unfold wH.l1
   repeat' first
   | (with_reducible exact ih0 _ _ _ _ _)
   | (with_reducible exact ih1 _ _ _ _ _ _ _ _ _)
   | (with_reducible exact xh.mono _ _)
   | (with_reducible first | exact vP.refl _ | exact vP.none _ | apply vP.ite | refine vP.bind ?_ fun _ => ?_)
theorem wH.mono : ∀ a0 k, vP (wH.f k a0) (wH.f (k + 1) a0) := by
 intro a0 k
 obtain ⟨ih0, ih1⟩ := wH.wj k
 unfold wH.f
 repeat' first
   | (with_reducible exact ih0 _ _ _ _ _)
   | (with_reducible exact ih1 _ _ _ _ _ _ _ _ _)
   | (with_reducible exact xh.mono _ _)
   | (with_reducible first | exact vP.refl _ | exact vP.none _ | apply vP.ite | refine vP.bind ?_ fun _ => ?_)
set_option maxHeartbeats 8000000 in
set_option maxRecDepth 100000 in
theorem wH.calls (k : Nat) (P0_ : Nat → Prop) (u9000_ : Value) (l0 : List (xc)) (r1 : List (xc)) (r2 : List ByteArray) (w0 w : World) (hB : Below w0.heap.size w0 w) (ho0 : Kd.R zh 87 w w0.heap.size P0_ u9000_ l0) (h : wH.f k l0 = some (r1, r2)) :
  Calls Tryd.prog 96 #[u9000_] w fun e w' => ∃ v0_ v1_ : Value, e = .returned (.agg #[v0_, v1_]) ∧ Kd.R zh 87 w' w0.heap.size (fun k_ => (P0_ k_ ∨ w.heap.size ≤ k_)) v0_ r1 ∧ Kd.R Kd.string 9 w' w0.heap.size (fun k_ => (P0_ k_ ∨ w.heap.size ≤ k_)) v1_ r2 ∧ Below w0.heap.size w0 w' ∧ Kept w w' (fun k_ => P0_ k_) := by
 have hu107 := Tryd.underlying107
 have HO0 := Aside0.mk (show Kd.R zh 87 w w0.heap.size (fun k_ => (P0_ k_ ∨ w.heap.size ≤ k_)) u9000_ l0 from Kd.vY ho0 (fun k_ hk => (.inl hk)))
 have HK := Aside0.mk (Kept.refl w (fun k_ => P0_ k_))
 have HW0 := Aside0.mk hB.size
 have HB := Aside0.mk hB
 clear hB
 have H := h
 unfold wH.f at H
 clear h
 obtain ⟨⟨t529, t530⟩, A2, H⟩ := oB H
 try dsimp only at H
 have H' := Aside0.mk H
 clear H
 go_enter Tryd.func96, Tryd.ntmps96
 go_wp2_with (first | ((with_reducible refine gd 2 rfl ?_); refine bx 2 #[.slice none 0 0, .slice none 0 0] 107 rfl rfl ?_; intro gb527 hg w3 hbox hb; have n_ := aC (Kd.vT (rU HO0.out) hb) (aC (Kept.below (S := (fun k_ => P0_ k_)) (by repeat (first | (with_reducible first | exact HK.out | apply Kept.alloc | apply Kept.drewN | apply Kept.drew) | exact HK.out)) hb) (aC (bs hb) (aC hbox (aC ((by rw [hg]; exact (by first | exact HK.out.1 | exact (show Kept w _ (fun k_ => P0_ k_) from by repeat (first | (with_reducible first | exact HK.out | apply Kept.alloc | apply Kept.drewN | apply Kept.drew) | exact HK.out)).1) : w.heap.size ≤ gb527)) (aE ((by rw [hg]; exact bz : w0.heap.size ≤ gb527))))))); clear HO0 HK HB; obtain ⟨HO0, HK, HB, BK527, GW527, GE527⟩ := n_; clear hb hbox hg; obtain ⟨Ao4, co4, eo4⟩ := Kd.wq HO0.out; subst eo4) | ((with_reducible refine gd 3 rfl ?_); refine bx 3 #[.slice none 0 0, .slice none 0 0] 107 rfl rfl ?_; intro gb528 hg w5 hbox hb; have n_ := aC (Kd.vT (rU HO0.out) hb) (aC (vu (bU BK527.out) hb) (aC (Kept.below (S := (fun k_ => P0_ k_)) (by repeat (first | (with_reducible first | exact HK.out | apply Kept.alloc | apply Kept.drewN | apply Kept.drew | refine Kept.setCell ?_ (.inr GW527.out) _) | exact HK.out)) hb) (aC (bs hb) (aC hbox (aC ((by rw [hg]; exact (by first | exact HK.out.1 | exact (show Kept w _ (fun k_ => P0_ k_) from by repeat (first | (with_reducible first | exact HK.out | apply Kept.alloc | apply Kept.drewN | apply Kept.drew | refine Kept.setCell ?_ (.inr GW527.out) _) | exact HK.out)).1) : w.heap.size ≤ gb528)) (aC ((by rw [hg]; exact bz : w0.heap.size ≤ gb528)) (aC (gn hg (bU BK527.out)) (aE (gm hg (bU BK527.out)))))))))); clear HO0 BK527 HK HB; obtain ⟨HO0, BK527, HK, HB, BK528, GW528, GE528, NB527_528, NB528_527⟩ := n_; clear hb hbox hg; have hnb6 := NB528_527.out; have hnc6 := NB527_528.out; obtain ⟨hcz7_0, hcz7_1, hfz7_0, hfz7_1⟩ := yt BK528.out) | (refine gF 113 15 Tryd.func113 #[.slice Ao4 l0.length co4] rfl rfl ?_; (with_reducible refine (xh.calls k _ _ l0 t529 t530 _ ?side1 ?side2 A2.out).mono ?_); (case side1 => refine (Kd.R_reads' (e := 87) (base := w0.heap.size) (ok := fun k_ => (P0_ k_ ∨ w.heap.size ≤ k_)) (n := l0.length) (c := co4) ?_).2.2; exact (rU (Kd.vY (Kd.wI (p := ⟨gb528, 1, none⟩) (Kd.wI (p := ⟨gb528, 0, none⟩) (Kd.xu HO0.out BK528.out (by decide)) (fun _ hk => hk.2) (.slice Ao4 l0.length co4)) (fun _ hk => hk.2) (.slice none 0 0)) (fun _ h_ => h_.1)))); (case side2 => exact (Kd.R_reads' HO0.out).2.1); rintro e w8 ⟨v531, rfl, ho0, hb⟩; refine ⟨_, rfl, ?_⟩; have n_ := aC (Kd.vT (rU (Kd.vY (Kd.wI (p := ⟨gb528, 1, none⟩) (Kd.wI (p := ⟨gb528, 0, none⟩) (Kd.xu HO0.out BK528.out (by decide)) (fun _ hk => hk.2) (.slice Ao4 l0.length co4)) (fun _ hk => hk.2) (.slice none 0 0)) (fun _ h_ => h_.1))) hb) (aC (Kd.S_lower (Kd.S_newM (M := fun k_ => (P0_ k_ ∨ w.heap.size ≤ k_)) ho0 (show Kept w _ (fun k_ => P0_ k_) from by repeat (first | (with_reducible first | exact HK.out | apply Kept.alloc | apply Kept.drewN | apply Kept.drew | refine Kept.setCell ?_ (.inr GW527.out) _ | refine Kept.setCell ?_ (.inr GW528.out) _) | exact HK.out)).1 (fun k_ h_ => .inr h_)) bz) (aC (vu (g := gb527) (o := .cells #[.slice none 0 0, .slice none 0 0] 107 (0, 0)) (by (with_reducible repeat first | apply vl | apply vn | apply vm); refine vV ?_ NB527_528.out _; (with_reducible repeat first | apply vl | apply vn | apply vm); refine vV ?_ NB527_528.out _; (with_reducible repeat first | apply vl | apply vn | apply vm); exact BK527.out) hb) (aC (vu (g := gb528) (o := .cells #[.slice Ao4 l0.length co4, .slice none 0 0] 107 (0, 0)) (by (with_reducible repeat first | apply vl | apply vn | apply vm); refine vv (cs := #[.slice Ao4 l0.length co4, .slice none 0 0]) ?_ 1 _ rfl; (with_reducible repeat first | apply vl | apply vn | apply vm); refine vv (cs := #[.slice none 0 0, .slice none 0 0]) ?_ 0 _ rfl; (with_reducible repeat first | apply vl | apply vn | apply vm); exact BK528.out) hb) (aC (Kept.below (S := (fun k_ => P0_ k_)) (by repeat (first | (with_reducible first | exact HK.out | apply Kept.alloc | apply Kept.drewN | apply Kept.drew | refine Kept.setCell ?_ (.inr GW527.out) _ | refine Kept.setCell ?_ (.inr GW528.out) _) | exact HK.out)) hb) (aE (bs hb)))))); clear HO0 BK527 BK528 HK HB; obtain ⟨HO0, HO532, BK527, BK528, HK, HB⟩ := n_; obtain ⟨Ao9, co9, eo9⟩ := Kd.S_slice HO532.out; subst eo9))
 go_loopg [20] k (fun kq v20 w' => ∃ (x20_1 : Int) (x529001_1 : List ByteArray) (u529001 : Value), v20 = .int .i64 x20_1 ∧ Aside0 (wH.l0 kq t529 (t529.length : Int) x20_1 l0 x529001_1 = some (r1, r2)) ∧ Aside0 (kq ≤ k) ∧ Aside0 (Kd.S (Kd.slice 5 (Kd.int .u8)) 22 w' w0.heap.size (fun k_ => (P0_ k_ ∨ w.heap.size ≤ k_)) (.slice Ao9 t529.length co9) t529) ∧ Aside0 (Kd.R zh 87 w' w0.heap.size (fun k_ => (P0_ k_ ∨ w.heap.size ≤ k_)) (.slice Ao4 l0.length co4) l0) ∧ Aside0 (Kd.R Kd.string 9 w' w0.heap.size (fun k_ => (P0_ k_ ∨ w.heap.size ≤ k_)) u529001 x529001_1) ∧ Aside0 (w'.heap[gb527]? = some (.cells #[(.slice none 0 0), (.slice none 0 0)] 107 (0, 0))) ∧ Aside0 (w'.heap[gb528]? = some (.cells #[(.slice Ao4 l0.length co4), u529001] 107 (0, 0))) ∧ Aside0 (Kept w w' (fun k_ => P0_ k_)) ∧ Aside0 (Below w0.heap.size w0 w'))
 case atStart => exact ⟨(0), (([] : List ByteArray)), (.slice none 0 0), rq, H', ⟨Nat.le_refl _⟩, ⟨by (with_reducible repeat (first | apply Kd.xP | apply Kd.xM | apply Kd.yn)); exact Kd.yR HO532.out (fun _ hk => hk.1)⟩, ⟨rU HO0.out⟩, ⟨by first | exact Kd.yC _ _ _ _ _ | exact Kd.za _ _ _ _ _ | exact Kd.y9 _ _ _ _ _ | exact Kd.zb _ _ _ _ _ | exact Kd.yZ _ _ _ _ _⟩, ⟨bU BK527.out⟩, ⟨bU BK528.out⟩, ⟨by repeat (first | (with_reducible first | exact HK.out | apply Kept.alloc | apply Kept.drewN | apply Kept.drew | refine Kept.setCell ?_ (.inr GW527.out) _ | refine Kept.setCell ?_ (.inr GW528.out) _) | exact HK.out)⟩, ⟨bl⟩⟩
 case round =>
  clear H'
  obtain ⟨x20_1, x529001_1, u529001, rfl, HA, HK1, HO_18, HO_529000, HO_529001, BK527, BK528, HK, HB⟩ := hrel
  cases gk with
  | zero => exact absurd HA.out (by simp [wH.l0])
  | succ k1 =>
   have H := HA.out
   clear HA
   simp only [wH.l0] at H
   rcases iL H with H1 | H1 <;> clear H <;> obtain ⟨H, c10b0⟩ := H1
   ·by_cases c11 : 0 ≤ x20_1
    ·rw [if_pos c11] at H
     have c11b0 := decide_eq_true c11
     clear c11
     by_cases c12 : x20_1 < (t529.length : Int)
     ·rw [if_pos c12] at H
      have c12b0 := decide_eq_true c12
      clear c12
      have H' := Aside0.mk H
      clear H
      have p533 : 0 ≤ (x20_1 : Int) := dt
      have q533 : x20_1 < (t529.length : Int) := dt
      obtain ⟨ad533, A533_0, c533_0, e533, hx533_0, hl533_0, hi533_0⟩ := at_L8 (Kd.S_reads' HO_18.out).2.2 x20_1 p533 q533
      cases e533
      obtain ⟨ce533, hce533, hMe533, hcc533⟩ := Kd.S_get HO_18.out [] x20_1 p533 (by first | exact q533 | exact dt | (have e_ := (Kd.S_reads' HO_18.out).1; omega))
      obtain ⟨ve533_0, rfl, ge533_0⟩ := hMe533
      have hv533_0 := hcc533 0 _ rfl
      rw [Nat.add_zero, show ((Kd.slice 5 (Kd.int .u8))).sz = 1 from rfl, Nat.mul_one] at hv533_0
      replace hv533_0 := Option.some.inj (hv533_0.symm.trans hx533_0)
      rw [hv533_0] at ge533_0
      have HL533_0 := Aside0.mk (show Kd.R (Kd.int .u8) 5 _ _ _ _ (yS t529 x20_1) from ge533_0)
      clear hv533_0 ge533_0
      clear hcc533 hce533
      have HR533_0 := Aside0.mk hi533_0
      have HC533_0 := Aside0.mk hl533_0
      clear hi533_0 hl533_0
      replace p533 := eq_true p533
      replace q533 := eq_true q533
      go_wp2
      go_loopg [8, 26] k1 (fun kq v8 v26 w' => ∃ (x8_2 : ByteArray) (x26_2 : Int), v8 = .string x8_2 ∧ v26 = .int .i64 x26_2 ∧ Aside0 (wH.l1 kq x8_2 t529 (t529.length : Int) x20_1 (yS t529 x20_1) ((yS t529 x20_1).length : Int) x26_2 l0 x529001_1 = some (r1, r2)) ∧ Aside0 (kq ≤ k1) ∧ Aside0 (Kd.S (Kd.slice 5 (Kd.int .u8)) 22 w' w0.heap.size (fun k_ => (P0_ k_ ∨ w.heap.size ≤ k_)) (.slice (some ad533) t529.length co9) t529) ∧ Aside0 (Kd.R zh 87 w' w0.heap.size (fun k_ => (P0_ k_ ∨ w.heap.size ≤ k_)) (.slice Ao4 l0.length co4) l0) ∧ Aside0 (Kd.R Kd.string 9 w' w0.heap.size (fun k_ => (P0_ k_ ∨ w.heap.size ≤ k_)) u529001 x529001_1) ∧ Aside0 (w'.heap[gb527]? = some (.cells #[(.slice none 0 0), (.slice none 0 0)] 107 (0, 0))) ∧ Aside0 (w'.heap[gb528]? = some (.cells #[(.slice Ao4 l0.length co4), u529001] 107 (0, 0))) ∧ Aside0 (Kd.C (Kd.int .u8) w' A533_0 (yS t529 x20_1).length (yS t529 x20_1)) ∧ Aside0 (Kept w w' (fun k_ => P0_ k_)) ∧ Aside0 (Below w0.heap.size w0 w'))
      case atStart => exact ⟨((⟨#[]⟩ : ByteArray)), (0), rq, rq, H', ⟨Nat.le_refl _⟩, ⟨by (with_reducible repeat (first | apply Kd.xP | apply Kd.xM | apply Kd.yn)); exact HO_18.out⟩, ⟨rU HO_529000.out⟩, ⟨rU HO_529001.out⟩, ⟨bU BK527.out⟩, ⟨bU BK528.out⟩, ⟨by repeat (first | (with_reducible exact HR533_0.out) | (with_reducible refine Kd.yk ?_ _) | (with_reducible refine Kd.yj ?_ _) | (with_reducible refine Kd.yI ?_) | exact HR533_0.out)⟩, ⟨by repeat (first | (with_reducible first | exact HK.out | apply Kept.alloc | apply Kept.drewN | apply Kept.drew | refine Kept.setCell ?_ (.inr GW527.out) _ | refine Kept.setCell ?_ (.inr GW528.out) _) | exact HK.out)⟩, ⟨bl⟩⟩
      case round =>
       clear H'
       obtain ⟨x8_2, x26_2, rfl, rfl, HA, HK2, HO_18, HO_529000, HO_529001, BK527, BK528, HR533_0, HK, HB⟩ := hrel
       cases gk with
       | zero => exact absurd HA.out (by simp [wH.l1])
       | succ k2 =>
        have H := HA.out
        clear HA
        simp only [wH.l1] at H
        rcases iL H with H1 | H1 <;> clear H <;> obtain ⟨H, c13b0⟩ := H1
        ·by_cases c14 : 0 ≤ x26_2
         ·rw [if_pos c14] at H
          have c14b0 := decide_eq_true c14
          clear c14
          by_cases c15 : x26_2 < ((yS t529 x20_1).length : Int)
          ·rw [if_pos c15] at H
           have c15b0 := decide_eq_true c15
           clear c15
           by_cases c16 : x8_2.size + (Utf8.encode (wrap32 (48 + (wrap32 (rd (yS t529 x20_1) x26_2))))).size ≤ 9223372036854775807
           ·rw [if_pos c16] at H
            have c16b0 := eq_true c16
            have c16b1 := decide_eq_true c16
            try have c16b2 : (9223372036854775807 < x8_2.size + (Utf8.encode (wrap32 (48 + (wrap32 (rd (yS t529 x20_1) x26_2))))).size) = False := eq_false (Nat.not_lt.2 c16)
            have H' := Aside0.mk H
            clear H
            have p534 : 0 ≤ (x26_2 : Int) := dt
            have q534 : x26_2 < ((yS t529 x20_1).length : Int) := dt
            obtain ⟨ad534, e534, hx534_0⟩ := Kd.xL HR533_0.out x26_2 p534 q534
            cases e534
            replace p534 := eq_true p534
            replace q534 := eq_true q534
            go_wp2
            go_roundg k2
            case measure => have := HK1.out; have := HK2.out; omega
            case rel => exact ⟨(x8_2 ++ (Utf8.encode (wrap32 (48 + (wrap32 (rd (yS t529 x20_1) x26_2)))))), (wrap64 (x26_2 + 1)), rq, rq, H', ⟨by have := HK1.out; have := HK2.out; omega⟩, ⟨by (with_reducible repeat (first | apply Kd.xP | apply Kd.xM | apply Kd.yn)); exact HO_18.out⟩, ⟨rU HO_529000.out⟩, ⟨rU HO_529001.out⟩, ⟨bU BK527.out⟩, ⟨bU BK528.out⟩, ⟨by repeat (first | (with_reducible exact HR533_0.out) | (with_reducible refine Kd.yk ?_ _) | (with_reducible refine Kd.yj ?_ _) | (with_reducible refine Kd.yI ?_) | exact HR533_0.out)⟩, ⟨by repeat (first | (with_reducible first | exact HK.out | apply Kept.alloc | apply Kept.drewN | apply Kept.drew | refine Kept.setCell ?_ (.inr GW527.out) _ | refine Kept.setCell ?_ (.inr GW528.out) _) | exact HK.out)⟩, ⟨bl⟩⟩
           ·rw [if_neg c16] at H
            exact absurd H (by simp)
          ·rw [if_neg c15] at H
           exact absurd H (by simp)
         ·rw [if_neg c14] at H
          exact absurd H (by simp)
        ·by_cases c17 : x529001_1.length < 8796093022208
         ·rw [if_pos c17] at H
          have LMc17 := Aside0.mk c17
          clear c17
          obtain ⟨y535, hy_⟩ : ∃ y_ : List ByteArray, y_ = (x529001_1 ++ [x8_2]) := ⟨_, rfl⟩
          replace H : (wH.l0 k2 t529 (t529.length : Int) (wrap64 (x20_1 + 1)) l0 y535) = some (r1, r2) := rh
          have Ny535 := aE hy_
          clear hy_
          have H' := Aside0.mk H
          clear H
          have hnb18 := NB528_527.out
          have hnc18 := NB527_528.out
          obtain ⟨hcz19_0, hcz19_1, hfz19_0, hfz19_1⟩ := yt BK528.out
          go_wp2_with (first | ((with_reducible refine xb (b := .append) (xs := #[.tmp 38, .tmp 40]) rfl ?_); at_builtin; refine Kd.zf Kd.string (w0 := w0) w0.heap.size rfl (.tmp 38) (.tmp 40) 30 9 (.string ⟨#[]⟩) 16 rfl Tryd.underlying30 info9 rfl (by decide) (by omega) u529001 x529001_1 x8_2 [.string x8_2] (fun k_ => (P0_ k_ ∨ w.heap.size ≤ k_)) (fun _ => False) rfl rfl ?aP (fun _ hk => hk.elim) ?aF ?aO ?aB ?aS ?aL ?_; (case aP => exact rfl); (case aB => exact bl); (case aF => exact (fun k_ hk => (.inr (Nat.le_trans (by first | exact HK.out.1 | exact (show Kept w _ (fun k_ => P0_ k_) from by repeat (first | (with_reducible first | exact HK.out | apply Kept.alloc | apply Kept.drewN | apply Kept.drew | refine Kept.setCell ?_ (.inr GW527.out) _ | refine Kept.setCell ?_ (.inr GW528.out) _) | exact HK.out)).1) hk)))); (case aO => exact (rU HO_529001.out)); (case aS => exact bz); (case aL => have := LMc17.out; omega); intro v536 w20 ho hb hg hat; rw [← Ny535.out] at ho; have n_ := aC (Kd.S_over' (by (with_reducible repeat (first | apply Kd.xP | apply Kd.xM | apply Kd.yn)); exact HO_18.out) (Kd.zB (rU HO_529001.out)) (by decide) hg) (aC (Kd.R_over' (rU HO_529000.out) (Kd.zB (rU HO_529001.out)) (by decide) hg) (aC (xx (bU BK527.out) hg (Kd.jh HO_529001.out BK527.out (by decide))) (aC (xx (bU BK528.out) hg (Kd.jh HO_529001.out BK528.out (by decide))) (aC hb (aC (Kept.k9 (S := (fun k_ => P0_ k_)) hg (by repeat (first | (with_reducible first | exact HK.out | apply Kept.alloc | apply Kept.drewN | apply Kept.drew | refine Kept.setCell ?_ (.inr GW527.out) _ | refine Kept.setCell ?_ (.inr GW528.out) _) | exact HK.out)) (fun k_ e_ => (HO_529001.out.1 k_ e_))) (aE ho)))))); clear HO_18 HO_529000 BK527 BK528 HB HK HO_529001; obtain ⟨HO_18, HO_529000, BK527, BK528, HB, HK, HO537⟩ := n_; clear ho hb hg hat; obtain ⟨Ao21, co21, eo21⟩ := Kd.wq HO537.out; subst eo21; obtain ⟨hcz22_0, hcz22_1, hfz22_0, hfz22_1⟩ := yt BK528.out))
          go_roundg k2
          case measure => have := HK1.out; have := HK2.out; omega
          case rel => exact ⟨(wrap64 (x20_1 + 1)), (y535), (.slice Ao21 y535.length co21), rq, H', ⟨by have := HK1.out; have := HK2.out; omega⟩, ⟨by (with_reducible repeat (first | apply Kd.xP | apply Kd.xM | apply Kd.yn)); exact Kd.yR (Kd.zI (p := ⟨gb528, 1, none⟩) (Kd.S_types HO_18.out BK528.out (by decide)) (fun _ hk => hk.2) (.slice Ao21 y535.length co21)) (fun _ hk => hk.1)⟩, ⟨rU (Kd.vY (Kd.wI (p := ⟨gb528, 1, none⟩) (Kd.xu HO_529000.out BK528.out (by decide)) (fun _ hk => hk.2) (.slice Ao21 y535.length co21)) (fun _ hk => hk.1))⟩, ⟨rU (Kd.vY (Kd.wI (p := ⟨gb528, 1, none⟩) (Kd.xu HO537.out BK528.out (by decide)) (fun _ hk => hk.2) (.slice Ao21 y535.length co21)) (fun _ hk => hk.1))⟩, ⟨by (with_reducible repeat first | apply vl | apply vn | apply vm); refine vV ?_ NB527_528.out _; (with_reducible repeat first | apply vl | apply vn | apply vm); exact BK527.out⟩, ⟨by (with_reducible repeat first | apply vl | apply vn | apply vm); refine vv (cs := #[.slice Ao4 l0.length co4, u529001]) ?_ 1 _ rfl; (with_reducible repeat first | apply vl | apply vn | apply vm); exact BK528.out⟩, ⟨by repeat (first | (with_reducible first | exact HK.out | apply Kept.alloc | apply Kept.drewN | apply Kept.drew | refine Kept.setCell ?_ (.inr GW527.out) _ | refine Kept.setCell ?_ (.inr GW528.out) _) | exact HK.out)⟩, ⟨bl⟩⟩
         ·rw [if_neg c17] at H
          exact absurd H (by simp)
     ·rw [if_neg c12] at H
      exact absurd H (by simp)
    ·rw [if_neg c11] at H
     exact absurd H (by simp)
   ·simp only [Option.some.injEq, Prod.mk.injEq] at H
    obtain ⟨rfl, rfl⟩ := H
    have hnb23 := NB528_527.out
    have hnc23 := NB527_528.out
    obtain ⟨hcz24_0, hcz24_1, hfz24_0, hfz24_1⟩ := yt BK528.out
    obtain ⟨hcz25_0, hcz25_1, hfz25_0, hfz25_1⟩ := yt BK527.out
    obtain ⟨Ao26, co26, eo26⟩ := Kd.wq HO_529001.out
    subst eo26
    go_wp2
    refine bodyPost_ret (results_cell_row rfl _ _ gb527 107 #[.slice Ao4 l0.length co4, .slice Ao26 x529001_1.length co26] (0, 0) _ rfl (by (with_reducible repeat first | apply vl | apply vn | apply vm); refine vv (cs := #[.slice Ao4 l0.length co4, .slice none 0 0]) ?_ 1 _ rfl; (with_reducible repeat first | apply vl | apply vn | apply vm); refine vv (cs := #[.slice none 0 0, .slice none 0 0]) ?_ 0 _ rfl; (with_reducible repeat first | apply vl | apply vn | apply vm); exact BK527.out) Tryd.underlying107 rfl (by kernel_rfl)) rfl ?_
    exact ⟨_, _, re, rU (Kd.vY (Kd.wI (p := ⟨gb527, 1, none⟩) (Kd.wI (p := ⟨gb527, 0, none⟩) (Kd.xu HO_529000.out BK527.out (by decide)) (fun _ hk => hk.2) (.slice Ao4 l0.length co4)) (fun _ hk => hk.2) (.slice Ao26 x529001_1.length co26)) (fun _ hk => hk.1)), rU (Kd.vY (Kd.wI (p := ⟨gb527, 1, none⟩) (Kd.wI (p := ⟨gb527, 0, none⟩) (Kd.xu HO_529001.out BK527.out (by decide)) (fun _ hk => hk.2) (.slice Ao4 l0.length co4)) (fun _ hk => hk.2) (.slice Ao26 x529001_1.length co26)) (fun _ hk => hk.1)), bl, by repeat (first | (with_reducible first | exact HK.out | apply Kept.alloc | apply Kept.drewN | apply Kept.drew | refine Kept.setCell ?_ (.inr GW527.out) _ | refine Kept.setCell ?_ (.inr GW528.out) _) | exact HK.out)⟩
def vo (w0 W : World) (g : Nat) (f0 : List Int) (f1 : Int) (f2 : Bool) : Prop := ∃ A0 c0, W.heap[g]? = some (.cells #[.slice A0 f0.length c0, .int .i64 f1, .bool f2] 140 (0, 0)) ∧ w0.heap.size ≤ g ∧ Kd.C (Kd.int .u8) w0 A0 f0.length f0
theorem vo.grown {w0 W : World} {g : Nat} {f0 : List Int} {f1 : Int} {f2 : Bool} {W1 : World} {row : Option Nat} (h : vo w0 W g f0 f1 f2) (hw : W.grownBy W1 row) (hne : some g ≠ row) : vo w0 W1 g f0 f1 f2 := by
 obtain ⟨A0, c0, hb, hg, hr0⟩ := h
 exact ⟨A0, c0, xx hb hw hne, hg, hr0⟩
theorem vo.own_neN {w0 W : World} {g : Nat} {f0 : List Int} {f1 : Int} {f2 : Bool} {α : Type} {d : Kd α} {e : Nat} {base : Nat} {ok : Nat → Prop} {v : Value} {xs : List α} (h : vo w0 W g f0 f1 f2) (ho : Kd.N d e W base ok v xs) (ht : e ≠ 140) : some g ≠ v.ownBlock := by
 obtain ⟨A0, c0, hb, hg, hr0⟩ := h
 exact Kd.N_ne ho hb ht
theorem vo.fresh {w0 W : World} {g : Nat} {f0 : List Int} {f1 : Int} {f2 : Bool} (h : vo w0 W g f0 f1 f2) : ∀ k, W.heap.size ≤ k → k ≠ g := by
 obtain ⟨A0, c0, hb, hg, hr0⟩ := h
 exact Kd.km hb
theorem vo.kept {w0 W : World} {g : Nat} {f0 : List Int} {f1 : Int} {f2 : Bool} {W1 : World} {S : Nat → Prop} (h : vo w0 W g f0 f1 f2) (hk : Kept W W1 S) (hne : ¬ S g) : vo w0 W1 g f0 f1 f2 := by
 obtain ⟨A0, c0, hb, hg, hr0⟩ := h
 exact ⟨A0, c0, blk_kept hb hk hne, hg, hr0⟩
theorem vo.below {w0 W : World} {g : Nat} {f0 : List Int} {f1 : Int} {f2 : Bool} {W1 : World} (h : vo w0 W g f0 f1 f2) (hw : Below W.heap.size W W1) : vo w0 W1 g f0 f1 f2 := h.grown (jE hw none) (by simp)
theorem vo.alloc {w0 W : World} {g : Nat} {f0 : List Int} {f1 : Int} {f2 : Bool} (h : vo w0 W g f0 f1 f2) (o : Obj) : vo w0 (W.alloc o) g f0 f1 f2 := h.below (vZ (Below.refl _ _) o)
theorem vo.drewN {w0 W : World} {g : Nat} {f0 : List Int} {f1 : Int} {f2 : Bool} (h : vo w0 W g f0 f1 f2) (m : Nat) : vo w0 (W.drewN m) g f0 f1 f2 := h
theorem vo.drew {w0 W : World} {g : Nat} {f0 : List Int} {f1 : Int} {f2 : Bool} (h : vo w0 W g f0 f1 f2) : vo w0 W.drew g f0 f1 f2 := h
theorem vo.at_ {w0 W : World} {g : Nat} {f0 : List Int} {f1 : Int} {f2 : Bool} {w' : World} {m : Nat} (hq : W.drewN m = w') (h : vo w0 W g f0 f1 f2) : vo w0 w' g f0 f1 f2 := by subst hq; exact vo.drewN h m
theorem vo.apart {w0 W : World} {g : Nat} {f0 : List Int} {f1 : Int} {f2 : Bool} {α : Type} {d : Kd α} {e : Nat} {base : Nat} {ok : Nat → Prop} {v : Value} {xs : List α} (h : vo w0 W g f0 f1 f2) (ho : d.R e W base ok v xs) (ht : ∀ q, q ∈ e :: d.E → q ≠ 140) : d.R e W base (fun k => ok k ∧ k ≠ g) v xs := by
 obtain ⟨A0, c0, hb, hg, hr0⟩ := h
 exact Kd.xu ho hb ht
theorem vo.own_ne {w0 W : World} {g : Nat} {f0 : List Int} {f1 : Int} {f2 : Bool} {α : Type} {d : Kd α} {e : Nat} {base : Nat} {ok : Nat → Prop} {v : Value} {xs : List α} (h : vo w0 W g f0 f1 f2) (ho : d.R e W base ok v xs) (ht : e ≠ 140) : some g ≠ v.ownBlock := by
 obtain ⟨A0, c0, hb, hg, hr0⟩ := h
 exact Kd.jh ho hb ht
theorem vo.apartQ {w0 W : World} {g : Nat} {f0 : List Int} {f1 : Int} {f2 : Bool} {α : Type} {d : Kd α} {e : Nat} {base : Nat} {ok : Nat → Prop} {v : Value} {xs : List α} (h : vo w0 W g f0 f1 f2) (ho : d.Q e W base ok v xs) (ht : ∀ q, q ∈ e :: d.E → q ≠ 140) : d.Q e W base (fun k => ok k ∧ k ≠ g) v xs := by
 obtain ⟨A0, c0, hb, hg, hr0⟩ := h
 exact Kd.Q_types ho hb ht
theorem vo.own_neQ {w0 W : World} {g : Nat} {f0 : List Int} {f1 : Int} {f2 : Bool} {α : Type} {d : Kd α} {e : Nat} {base : Nat} {ok : Nat → Prop} {v : Value} {xs : List α} (h : vo w0 W g f0 f1 f2) (ho : d.Q e W base ok v xs) (ht : e ≠ 140) : some g ≠ v.ownBlock := by
 obtain ⟨A0, c0, hb, hg, hr0⟩ := h
 exact Kd.Q_ne ho hb ht
theorem vo.apartS {w0 W : World} {g : Nat} {f0 : List Int} {f1 : Int} {f2 : Bool} {α : Type} {d : Kd α} {e : Nat} {base : Nat} {ok : Nat → Prop} {v : Value} {xs : List α} (h : vo w0 W g f0 f1 f2) (ho : d.S e W base ok v xs) (ht : ∀ q, q ∈ e :: d.E → q ≠ 140) : d.S e W base (fun k => ok k ∧ k ≠ g) v xs := by
 obtain ⟨A0, c0, hb, hg, hr0⟩ := h
 exact Kd.S_types ho hb ht
theorem vo.own_neS {w0 W : World} {g : Nat} {f0 : List Int} {f1 : Int} {f2 : Bool} {α : Type} {d : Kd α} {e : Nat} {base : Nat} {ok : Nat → Prop} {v : Value} {xs : List α} (h : vo w0 W g f0 f1 f2) (ho : d.S e W base ok v xs) (ht : e ≠ 140) : some g ≠ v.ownBlock := by
 obtain ⟨A0, c0, hb, hg, hr0⟩ := h
 exact Kd.S_ne ho hb ht
theorem vo.lt {w0 W : World} {g : Nat} {f0 : List Int} {f1 : Int} {f2 : Bool} (h : vo w0 W g f0 f1 f2) : g < W.heap.size := by
 obtain ⟨A0, c0, hb, hg, hr0⟩ := h
 exact ze hb
theorem vo.ge {w0 W : World} {g : Nat} {f0 : List Int} {f1 : Int} {f2 : Bool} (h : vo w0 W g f0 f1 f2) : w0.heap.size ≤ g := by
 obtain ⟨A0, c0, hb, hg, hr0⟩ := h
 exact hg
theorem vo.ne_blk {w0 W : World} {g : Nat} {f0 : List Int} {f1 : Int} {f2 : Bool} {a : Nat} {cs : Array Value} {t : TypeId} {fr : Nat × Nat} (h : vo w0 W g f0 f1 f2) (hb2 : W.heap[a]? = some (.cells cs t fr)) (ht : t ≠ 140) : g ≠ a := by
 obtain ⟨A0, c0, hb, hg, hr0⟩ := h
 rintro rfl
 rw [hb] at hb2
 injection hb2 with hb2
 injection hb2 with _ ht2
 exact ht ht2.symm
theorem vo.far {w0 W : World} {g : Nat} {f0 : List Int} {f1 : Int} {f2 : Bool} {p : Addr} (h : vo w0 W g f0 f1 f2) (hne : g ≠ p.block) (u : Value) : vo w0 (W.setCell p u) g f0 f1 f2 := by
 obtain ⟨A0, c0, hb, hg, hr0⟩ := h
 exact ⟨A0, c0, vV hb hne u, hg, hr0⟩
theorem zT {W : World} {g : Nat} {A0 : Option Addr} {c0 : Nat} {f0 : List Int} {f1 : Int} {f2 : Bool} (h : W.heap[g]? = some (.cells #[.slice A0 f0.length c0, .int .i64 f1, .bool f2] 140 (0, 0))) : W.cell? ⟨g, 0, none⟩ = some (.slice A0 f0.length c0) := (xl h 0).trans rfl
theorem zP {W : World} {g : Nat} {A0 : Option Addr} {c0 : Nat} {f0 : List Int} {f1 : Int} {f2 : Bool} (h : W.heap[g]? = some (.cells #[.slice A0 f0.length c0, .int .i64 f1, .bool f2] 140 (0, 0))) : W.cell? ⟨g, 1, none⟩ = some (.int .i64 f1) := (xl h 1).trans rfl
theorem vo.xT {w0 W : World} {g : Nat} {f0 : List Int} {f1 : Int} {f2 : Bool} (h : vo w0 W g f0 f1 f2) (x : Int) : vo w0 (W.setCell ⟨g, 1, none⟩ (.int .i64 x)) g f0 x f2 := by
 obtain ⟨A0, c0, hb, hg, hr0⟩ := h
 exact ⟨A0, c0, by simpa using k6 hb 1 (.int .i64 x), hg, hr0⟩
theorem zS {W : World} {g : Nat} {A0 : Option Addr} {c0 : Nat} {f0 : List Int} {f1 : Int} {f2 : Bool} (h : W.heap[g]? = some (.cells #[.slice A0 f0.length c0, .int .i64 f1, .bool f2] 140 (0, 0))) : W.cell? ⟨g, 2, none⟩ = some (.bool f2) := (xl h 2).trans rfl
theorem vo.xR {w0 W : World} {g : Nat} {f0 : List Int} {f1 : Int} {f2 : Bool} (h : vo w0 W g f0 f1 f2) (x : Bool) : vo w0 (W.setCell ⟨g, 2, none⟩ (.bool x)) g f0 f1 x := by
 obtain ⟨A0, c0, hb, hg, hr0⟩ := h
 exact ⟨A0, c0, by simpa using k6 hb 2 (.bool x), hg, hr0⟩
theorem vo.new (w0 W : World) (A0 : Option Addr) (c0 : Nat) (f0 : List Int) (f1 : Int) (f2 : Bool) (hB : Below w0.heap.size w0 W) (hr0 : Kd.C (Kd.int .u8) w0 A0 f0.length f0) : vo w0 (W.alloc (.cells #[.slice A0 f0.length c0, .int .i64 f1, .bool f2] 140)) W.heap.size f0 f1 f2 := ⟨A0, c0, by simpa using heap_alloc_new W _, hB.size, hr0⟩
def xr.f (s0_0 : List Int) (s0_1 : Int) (s0_2 : Bool) : Option (Bool × Int × Bool) := some (!s0_2, s0_1, s0_2)
set_option maxHeartbeats 8000000 in
set_option maxRecDepth 100000 in
theorem xr.calls (g : Nat) (s0_0 : List Int) (s0_1 : Int) (s0_2 : Bool) (r1 : Bool) (r2 : Int) (r3 : Bool) (w0 w : World) (hI : vo w0 w g s0_0 s0_1 s0_2) (hB : Below w0.heap.size w0 w) (h : xr.f s0_0 s0_1 s0_2 = some (r1, r2, r3)) :
  Calls Tryd.prog 97 #[.pointer (some ⟨g, 0, none⟩)] w fun e w' => e = .returned (.bool r1) ∧ vo w0 w' g s0_0 r2 r3 ∧ Below w0.heap.size w0 w' ∧ vx w w' g none := by
 have HI0 := Aside0.mk hI
 have HK := Aside0.mk (vx.refl w g none)
 have HL := Aside0.mk hB.size
 clear hI
 have HW0 := Aside0.mk hB.size
 have HB := Aside0.mk hB
 clear hB
 have H : (some (!s0_2, s0_1, s0_2)) = some (r1, r2, r3) := h
 clear h
 simp only [Option.some.injEq, Prod.mk.injEq] at H
 obtain ⟨rfl, rfl, rfl⟩ := H
 obtain ⟨ASz2_0, cSz2_0, HGz2, hgz2, HSz2_0⟩ := HI0.out
 have hcz2_0 := zT HGz2
 have hcz2_1 := zP HGz2
 have hcz2_2 := zS HGz2
 have hfz2_1 := wY HGz2 1
 have hfz2_2 := wY HGz2 2
 clear HGz2 hgz2
 go_enter Tryd.func97, Tryd.ntmps97
 go_wp2
 go_ret
 exact ⟨re, by repeat (first | (with_reducible first | exact HI0.out | apply vo.alloc | apply vo.drewN | apply vo.drew | apply vo.xT | apply vo.xR) | exact HI0.out), by repeat (first | (with_reducible first | exact HB.out | apply vZ | apply vM | apply vG | refine wk ?_ (vo.ge HI0.out)) | exact HB.out), by repeat (first | (with_reducible first | exact HK.out | apply vx.yr | apply wl | apply wz | apply wn) | exact HK.out)⟩
def yX.f (s0_0 : List Int) (s0_1 : Int) (s0_2 : Bool) : Option (Int × Int × Bool) := (xr.f s0_0 s0_1 s0_2).bind fun bt542 => (if bt542.1 = true then (some (0, bt542.2.1, bt542.2.2)) else (some (bt542.2.1, bt542.2.1, bt542.2.2)))
set_option maxHeartbeats 8000000 in
set_option maxRecDepth 100000 in
theorem yX.calls (g : Nat) (s0_0 : List Int) (s0_1 : Int) (s0_2 : Bool) (r1 : Int) (r2 : Int) (r3 : Bool) (w0 w : World) (hI : vo w0 w g s0_0 s0_1 s0_2) (hB : Below w0.heap.size w0 w) (h : yX.f s0_0 s0_1 s0_2 = some (r1, r2, r3)) :
  Calls Tryd.prog 80 #[.pointer (some ⟨g, 0, none⟩)] w fun e w' => e = .returned (.int .i64 r1) ∧ vo w0 w' g s0_0 r2 r3 ∧ Below w0.heap.size w0 w' ∧ vx w w' g none := by
 have HI0 := Aside0.mk hI
 have HK := Aside0.mk (vx.refl w g none)
 have HL := Aside0.mk hB.size
 clear hI
 have HW0 := Aside0.mk hB.size
 have HB := Aside0.mk hB
 clear hB
 have H := h
 unfold yX.f at H
 clear h
 obtain ⟨⟨t542, t543, t544⟩, A2, H⟩ := oB H
 try dsimp only at H
 by_cases c3 : t542 = true
 ·subst c3
  rw [if_pos rfl] at H
  simp only [Option.some.injEq, Prod.mk.injEq] at H
  obtain ⟨rfl, rfl, rfl⟩ := H
  go_enter Tryd.func80, Tryd.ntmps80
  go_wp2_with (first | (refine gF 97 4 Tryd.func97 #[.pointer (some ⟨g, 0, none⟩)] rfl rfl ?_; (with_reducible refine (xr.calls g s0_0 s0_1 s0_2 true t543 t544 w0 _ ?side1 ?side2 A2.out).mono ?_); (case side1 => repeat (first | (with_reducible first | exact HI0.out | apply vo.alloc | apply vo.drewN | apply vo.drew | apply vo.xT | apply vo.xR) | exact HI0.out)); (case side2 => repeat (first | (with_reducible first | exact HB.out | apply vZ | apply vM | apply vG | refine wk ?_ (vo.ge HI0.out)) | exact HB.out)); rintro e w4 ⟨rfl, hi, hb, hk⟩; refine ⟨_, rfl, ?_⟩; have n_ := aC (vx.trans (by repeat (first | (with_reducible first | exact HK.out | apply vx.yr | apply wl | apply wz | apply wn) | exact HK.out)) hk (.inl rfl)) (aC hb (aE hi)); clear HK HB HI0; obtain ⟨HK, HB, HI0⟩ := n_))
  go_ret
  exact ⟨re, by repeat (first | (with_reducible first | exact HI0.out | apply vo.alloc | apply vo.drewN | apply vo.drew | apply vo.xT | apply vo.xR) | exact HI0.out), by repeat (first | (with_reducible first | exact HB.out | apply vZ | apply vM | apply vG | refine wk ?_ (vo.ge HI0.out)) | exact HB.out), by repeat (first | (with_reducible first | exact HK.out | apply vx.yr | apply wl | apply wz | apply wn) | exact HK.out)⟩
 ·replace c3 := Bool.eq_false_iff.mpr c3
  subst c3
  rw [if_neg Bool.false_ne_true] at H
  simp only [Option.some.injEq, Prod.mk.injEq] at H
  obtain ⟨rfl, rfl, rfl⟩ := H
  go_enter Tryd.func80, Tryd.ntmps80
  go_wp2_with (first | (refine gF 97 4 Tryd.func97 #[.pointer (some ⟨g, 0, none⟩)] rfl rfl ?_; (with_reducible refine (xr.calls g s0_0 s0_1 s0_2 false t543 t544 w0 _ ?side1 ?side2 A2.out).mono ?_); (case side1 => repeat (first | (with_reducible first | exact HI0.out | apply vo.alloc | apply vo.drewN | apply vo.drew | apply vo.xT | apply vo.xR) | exact HI0.out)); (case side2 => repeat (first | (with_reducible first | exact HB.out | apply vZ | apply vM | apply vG | refine wk ?_ (vo.ge HI0.out)) | exact HB.out)); rintro e w5 ⟨rfl, hi, hb, hk⟩; refine ⟨_, rfl, ?_⟩; have n_ := aC (vx.trans (by repeat (first | (with_reducible first | exact HK.out | apply vx.yr | apply wl | apply wz | apply wn) | exact HK.out)) hk (.inl rfl)) (aC hb (aE hi)); clear HK HB HI0; obtain ⟨HK, HB, HI0⟩ := n_; obtain ⟨ASz6_0, cSz6_0, HGz6, hgz6, HSz6_0⟩ := HI0.out; have hcz6_0 := zT HGz6; have hcz6_1 := zP HGz6; have hcz6_2 := zS HGz6; have hfz6_1 := wY HGz6 1; have hfz6_2 := wY HGz6 2; clear HGz6 hgz6))
  go_ret
  exact ⟨re, by repeat (first | (with_reducible first | exact HI0.out | apply vo.alloc | apply vo.drewN | apply vo.drew | apply vo.xT | apply vo.xR) | exact HI0.out), by repeat (first | (with_reducible first | exact HB.out | apply vZ | apply vM | apply vG | refine wk ?_ (vo.ge HI0.out)) | exact HB.out), by repeat (first | (with_reducible first | exact HK.out | apply vx.yr | apply wl | apply wz | apply wn) | exact HK.out)⟩
def yw.f (s0_0 : List Int) (s0_1 : Int) (s0_2 : Bool) : Option (Int × Int × Bool) := (xr.f s0_0 s0_1 s0_2).bind fun bt545 => (if bt545.1 = true then (some (0, bt545.2.1, bt545.2.2)) else (some (wrap64 ((wrap64 (8 * (s0_0.length : Int))) - bt545.2.1), bt545.2.1, bt545.2.2)))
set_option maxHeartbeats 8000000 in
set_option maxRecDepth 100000 in
theorem yw.calls (g : Nat) (s0_0 : List Int) (s0_1 : Int) (s0_2 : Bool) (r1 : Int) (r2 : Int) (r3 : Bool) (w0 w : World) (hI : vo w0 w g s0_0 s0_1 s0_2) (hB : Below w0.heap.size w0 w) (h : yw.f s0_0 s0_1 s0_2 = some (r1, r2, r3)) :
  Calls Tryd.prog 126 #[.pointer (some ⟨g, 0, none⟩)] w fun e w' => e = .returned (.int .i64 r1) ∧ vo w0 w' g s0_0 r2 r3 ∧ Below w0.heap.size w0 w' ∧ vx w w' g none := by
 have HI0 := Aside0.mk hI
 have HK := Aside0.mk (vx.refl w g none)
 have HL := Aside0.mk hB.size
 clear hI
 have HW0 := Aside0.mk hB.size
 have HB := Aside0.mk hB
 clear hB
 have H := h
 unfold yw.f at H
 clear h
 obtain ⟨⟨t545, t546, t547⟩, A2, H⟩ := oB H
 try dsimp only at H
 by_cases c3 : t545 = true
 ·subst c3
  rw [if_pos rfl] at H
  simp only [Option.some.injEq, Prod.mk.injEq] at H
  obtain ⟨rfl, rfl, rfl⟩ := H
  go_enter Tryd.func126, Tryd.ntmps126
  go_wp2_with (first | (go_at_call 97; (with_reducible refine (xr.calls g s0_0 s0_1 s0_2 true t546 t547 w0 _ ?side1 ?side2 A2.out).mono ?_); (case side1 => repeat (first | (with_reducible first | exact HI0.out | apply vo.alloc | apply vo.drewN | apply vo.drew | apply vo.xT | apply vo.xR) | exact HI0.out)); (case side2 => repeat (first | (with_reducible first | exact HB.out | apply vZ | apply vM | apply vG | refine wk ?_ (vo.ge HI0.out)) | exact HB.out)); rintro e w4 ⟨rfl, hi, hb, hk⟩; have n_ := aC (vx.trans (by repeat (first | (with_reducible first | exact HK.out | apply vx.yr | apply wl | apply wz | apply wn) | exact HK.out)) hk (.inl rfl)) (aC hb (aE hi)); clear HK HB HI0; obtain ⟨HK, HB, HI0⟩ := n_))
  go_ret
  exact ⟨re, by repeat (first | (with_reducible first | exact HI0.out | apply vo.alloc | apply vo.drewN | apply vo.drew | apply vo.xT | apply vo.xR) | exact HI0.out), by repeat (first | (with_reducible first | exact HB.out | apply vZ | apply vM | apply vG | refine wk ?_ (vo.ge HI0.out)) | exact HB.out), by repeat (first | (with_reducible first | exact HK.out | apply vx.yr | apply wl | apply wz | apply wn) | exact HK.out)⟩
 ·replace c3 := Bool.eq_false_iff.mpr c3
  subst c3
  rw [if_neg Bool.false_ne_true] at H
  simp only [Option.some.injEq, Prod.mk.injEq] at H
  obtain ⟨rfl, rfl, rfl⟩ := H
  go_enter Tryd.func126, Tryd.ntmps126
  go_wp2_with (first | (go_at_call 97; (with_reducible refine (xr.calls g s0_0 s0_1 s0_2 false t546 t547 w0 _ ?side1 ?side2 A2.out).mono ?_); (case side1 => repeat (first | (with_reducible first | exact HI0.out | apply vo.alloc | apply vo.drewN | apply vo.drew | apply vo.xT | apply vo.xR) | exact HI0.out)); (case side2 => repeat (first | (with_reducible first | exact HB.out | apply vZ | apply vM | apply vG | refine wk ?_ (vo.ge HI0.out)) | exact HB.out)); rintro e w5 ⟨rfl, hi, hb, hk⟩; have n_ := aC (vx.trans (by repeat (first | (with_reducible first | exact HK.out | apply vx.yr | apply wl | apply wz | apply wn) | exact HK.out)) hk (.inl rfl)) (aC hb (aE hi)); clear HK HB HI0; obtain ⟨HK, HB, HI0⟩ := n_; obtain ⟨ASz6_0, cSz6_0, HGz6, hgz6, HSz6_0⟩ := HI0.out; have hcz6_0 := zT HGz6; have hcz6_1 := zP HGz6; have hcz6_2 := zS HGz6; have hfz6_1 := wY HGz6 1; have hfz6_2 := wY HGz6 2; clear HGz6 hgz6))
  repeat (go_quiet (first | (go_at_call 97; (with_reducible refine (xr.calls g s0_0 s0_1 s0_2 false t546 t547 w0 _ ?side1 ?side2 A2.out).mono ?_); (case side1 => repeat (first | (with_reducible first | exact HI0.out | apply vo.alloc | apply vo.drewN | apply vo.drew | apply vo.xT | apply vo.xR) | exact HI0.out)); (case side2 => repeat (first | (with_reducible first | exact HB.out | apply vZ | apply vM | apply vG | refine wk ?_ (vo.ge HI0.out)) | exact HB.out)); rintro e w5 ⟨rfl, hi, hb, hk⟩; have n_ := aC (vx.trans (by repeat (first | (with_reducible first | exact HK.out | apply vx.yr | apply wl | apply wz | apply wn) | exact HK.out)) hk (.inl rfl)) (aC hb (aE hi)); clear HK HB HI0; obtain ⟨HK, HB, HI0⟩ := n_; obtain ⟨ASz6_0, cSz6_0, HGz6, hgz6, HSz6_0⟩ := HI0.out; have hcz6_0 := zT HGz6; have hcz6_1 := zP HGz6; have hcz6_2 := zS HGz6; have hfz6_1 := wY HGz6 1; have hfz6_2 := wY HGz6 2; clear HGz6 hgz6)); try go_wp2_with (first | (go_at_call 97; (with_reducible refine (xr.calls g s0_0 s0_1 s0_2 false t546 t547 w0 _ ?side1 ?side2 A2.out).mono ?_); (case side1 => repeat (first | (with_reducible first | exact HI0.out | apply vo.alloc | apply vo.drewN | apply vo.drew | apply vo.xT | apply vo.xR) | exact HI0.out)); (case side2 => repeat (first | (with_reducible first | exact HB.out | apply vZ | apply vM | apply vG | refine wk ?_ (vo.ge HI0.out)) | exact HB.out)); rintro e w5 ⟨rfl, hi, hb, hk⟩; have n_ := aC (vx.trans (by repeat (first | (with_reducible first | exact HK.out | apply vx.yr | apply wl | apply wz | apply wn) | exact HK.out)) hk (.inl rfl)) (aC hb (aE hi)); clear HK HB HI0; obtain ⟨HK, HB, HI0⟩ := n_; obtain ⟨ASz6_0, cSz6_0, HGz6, hgz6, HSz6_0⟩ := HI0.out; have hcz6_0 := zT HGz6; have hcz6_1 := zP HGz6; have hcz6_2 := zS HGz6; have hfz6_1 := wY HGz6 1; have hfz6_2 := wY HGz6 2; clear HGz6 hgz6)))
  go_ret
  exact ⟨re, by repeat (first | (with_reducible first | exact HI0.out | apply vo.alloc | apply vo.drewN | apply vo.drew | apply vo.xT | apply vo.xR) | exact HI0.out), by repeat (first | (with_reducible first | exact HB.out | apply vZ | apply vM | apply vG | refine wk ?_ (vo.ge HI0.out)) | exact HB.out), by repeat (first | (with_reducible first | exact HK.out | apply vx.yr | apply wl | apply wz | apply wn) | exact HK.out)⟩
end Go.Proofs.YtknclbodinfbeaaDoor.PRunsSame
