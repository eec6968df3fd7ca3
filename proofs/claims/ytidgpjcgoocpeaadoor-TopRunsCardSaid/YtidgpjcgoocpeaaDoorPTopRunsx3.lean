-- printed (wip/tools/myprint.py)
import Derived.Test.YtidgpjcgoocpeaaDoorPTopRunsx0
import Derived.Test.YtidgpjcgoocpeaaDoorPTopRunsx2
namespace Go.Proofs.YtidgpjcgoocpeaaDoor.PTopRuns
open Go.RowKit Go.Proofs.YtidgpjcgoocpeaaDoorW.PrintWords Go.Proofs.YtidgpjcgoocpeaaDoorW.PrintLast Go.Proofs.YtidgpjcgoocpeaaDoorW.PrintMore
attribute [local go_sem] max2_int min2_int max_two min_two max_three min_three max_four min_four
set_option linter.unusedVariables false
set_option linter.unusedSimpArgs false
def prefix_digits.l0 : Nat → Int → Int → List Int → Int → Int → Option (List Int)
 | 0, _, _, _, _, _ => none
 | k + 1, x0, x1, x5, x10, x11 => if x11 < x10 then (if 0 ≤ (wrap64 ((wrap64 (x1 - 1)) - x11)) then (if 0 ≤ x11 then (if x11 < (x5.length : Int) then (prefix_digits.l0 k x0 x1 (x5.set (x11 : Int).toNat ((Go.bits .and .i64 (shr .i64 x0 (wrap64 ((wrap64 (x1 - 1)) - x11))) 1) % 256)) x10 (wrap64 (x11 + 1))) else (none)) else (none)) else (none)) else (some x5)
def prefix_digits.f (k : Nat) (a0 : Int) (a1 : Int) : Option (List Int) := if 0 ≤ a1 then (if (a1 : Int).toNat ≤ 281474976710656 then ((some (List.replicate (a1 : Int).toNat 0 : List Int)).bind fun y146 => (prefix_digits.l0 k a0 a1 y146 (y146.length : Int) 0)) else (none)) else (none)
theorem prefix_digits.mono_l : ∀ k, (∀ y0 y1 y2 y3 y4, LeO (prefix_digits.l0 k y0 y1 y2 y3 y4) (prefix_digits.l0 (k + 1) y0 y1 y2 y3 y4))
 | 0 => fun _ _ _ _ _ r h => by simp [prefix_digits.l0] at h
 | k + 1 => by
  have ih0 := prefix_digits.mono_l k
  ·intro y0 y1 y2 y3 y4
   unfold prefix_digits.l0
   repeat' first
   | (with_reducible exact ih0 _ _ _ _ _)
   | (with_reducible first | exact LeO.refl _ | exact LeO.none _ | refine LeO.ite ?_ ?_ | refine LeO.bind ?_ (fun _ => ?_))
theorem prefix_digits.mono : ∀ a0 a1 k, LeO (prefix_digits.f k a0 a1) (prefix_digits.f (k + 1) a0 a1) := by
 intro a0 a1 k
 have ih0 := prefix_digits.mono_l k
 unfold prefix_digits.f
 repeat' first
   | (with_reducible exact ih0 _ _ _ _ _)
   | (with_reducible first | exact LeO.refl _ | exact LeO.none _ | refine LeO.ite ?_ ?_ | refine LeO.bind ?_ (fun _ => ?_))
set_option maxHeartbeats 8000000 in
set_option maxRecDepth 100000 in
theorem prefix_digits.calls (k : Nat) (a0 : Int) (a1 : Int) (r : List Int) (w : World) (h : prefix_digits.f k a0 a1 = some r) :
  Calls Tryd.prog 68 #[.int .i64 a0, .int .i64 a1] w fun e w' => ∃ v0_ : Value, e = .returned (v0_) ∧ Kd.R (Kd.int .u8) 5 w' w.heap.size (fun _ => True) v0_ r ∧ Below w.heap.size w w' := by
 have HB := Aside0.mk (Below.refl w.heap.size w)
 have H := h
 unfold prefix_digits.f at H
 clear h
 by_cases c3 : 0 ≤ a1
 ·rw [if_pos c3] at H
  have c3b0 := eq_true c3
  have c3b1 := decide_eq_true c3
  clear c3
  by_cases c4 : (a1 : Int).toNat ≤ 281474976710656
  ·rw [if_pos c4] at H
   have c4b0 := eq_true c4
   have c4b1 := decide_eq_true c4
   clear c4
   obtain ⟨y146, hy_⟩ : ∃ y_ : List Int, y_ = (List.replicate (a1 : Int).toNat 0) := ⟨_, rfl⟩
   replace H : (prefix_digits.l0 k a0 a1 y146 (y146.length : Int) 0) = some r := rh
   have Ny146 := aE hy_
   clear hy_
   have H' := Aside0.mk H
   clear H
   go_enter Tryd.func68, Tryd.ntmps68
   go_wp2_with (first | ((with_reducible refine gd 8 rfl ?_); refine Kd.R_make (Kd.int .u8) _ 5 rfl (N := 8) rfl 22 _ _ rfl a1 rfl rfl Tryd.underlying22 (.int .u8 0) 1 info5 rfl (by decide) (by omega) 0 (ok := fun _ => True) (okp := fun _ => True) rfl (fun _ hk => hk) trivial (dt) (Nat.le_trans (Nat.mul_le_mul_right _ (dt : a1.toNat ≤ 281474976710656)) (by omega)) (Below.refl _ _) (Nat.le_refl _) ?_; intro v147 w5 ho6 hb hg_ hnew_; clear hg_ hnew_; (first | rw [← Ny146.out] at ho6 | (simp only [Int.reduceToNat] at ho6; rw [← Ny146.out] at ho6)); have n_ := aC (Kd.R_lower ho6 bz) (aE (bs hb)); clear HB; obtain ⟨HO148, HB⟩ := n_; clear hb ho6; obtain ⟨Ao7, co7, eo7⟩ := Kd.R_slice HO148.out; subst eo7))
   go_loopg [11] k (fun kq v11 w' => ∃ (x5_1 : List Int) (x11_1 : Int), v11 = .int .i64 x11_1 ∧ Aside0 (prefix_digits.l0 kq a0 a1 x5_1 (y146.length : Int) x11_1 = some r) ∧ Aside0 (kq ≤ k) ∧ Aside0 (Kd.R (Kd.int .u8) 5 w' w.heap.size (fun _ => True) (.slice Ao7 y146.length co7) x5_1) ∧ Aside0 (Below w.heap.size w w'))
   case atStart => exact ⟨(y146), (0), rq, H', ⟨Nat.le_refl _⟩, ⟨rU HO148.out⟩, ⟨bl⟩⟩
   case round =>
    clear H'
    obtain ⟨x5_1, x11_1, rfl, HA, HK1, HO_5, HB⟩ := hrel
    have hl5_1 := (Kd.R_reads' HO_5.out).1
    rw [hl5_1] at HO_5
    (try simp only [hl5_1])
    cases gk with
    | zero => exact absurd HA.out (by simp [prefix_digits.l0])
    | succ k1 =>
     have H := HA.out
     clear HA
     simp only [prefix_digits.l0] at H
     by_cases c8 : x11_1 < (y146.length : Int)
     ·rw [if_pos c8] at H
      have c8b0 := decide_eq_true c8
      (try (have c8b0_hl5_1 := c8b0; simp only [hl5_1] at c8b0_hl5_1))
      clear c8
      obtain ⟨ji9, hji9⟩ : ∃ j_ : Int, (wrap64 ((wrap64 (a1 - 1)) - x11_1)) = j_ := ⟨_, rfl⟩
      replace H : (if 0 ≤ (ji9) then (if 0 ≤ x11_1 then (if x11_1 < (x5_1.length : Int) then (prefix_digits.l0 k1 a0 a1 (x5_1.set (x11_1 : Int).toNat ((Go.bits .and .i64 (shr .i64 a0 (ji9)) 1) % 256)) (y146.length : Int) (wrap64 (x11_1 + 1))) else (none)) else (none)) else (none)) = some r := by first | (rw [hji9] at H; exact H) | (simp only [hji9] at H ⊢; exact H)
      have hji9w : (IntKind.i64.wrap ((wrap64 (a1 - 1)) - x11_1)) = ji9 := (i64_w _).trans hji9
      by_cases c10 : 0 ≤ (ji9)
      ·rw [if_pos c10] at H
       have c10b0 := eq_true c10
       have c10b1 := decide_eq_true c10
       clear c10
       obtain ⟨ji11, hji11⟩ : ∃ j_ : Int, (shr .i64 a0 (ji9)) = j_ := ⟨_, rfl⟩
       replace H : (if 0 ≤ x11_1 then (if x11_1 < (x5_1.length : Int) then (prefix_digits.l0 k1 a0 a1 (x5_1.set (x11_1 : Int).toNat ((Go.bits .and .i64 (ji11) 1) % 256)) (y146.length : Int) (wrap64 (x11_1 + 1))) else (none)) else (none)) = some r := by first | (rw [hji11] at H; exact H) | (simp only [hji11] at H ⊢; exact H)
       have hji11_ : (a0 / 2 ^ min (ji9).toNat 64) = ji11 := hji11
       have hji11z : (ji9) ≤ 64 → (a0 / 2 ^ (ji9).toNat) = ji11 := shr_small hji11
       by_cases c12 : 0 ≤ x11_1
       ·rw [if_pos c12] at H
        have c12b0 := decide_eq_true c12
        clear c12
        by_cases c13 : x11_1 < (x5_1.length : Int)
        ·rw [if_pos c13] at H
         have c13b0 := decide_eq_true c13
         (try (have c13b0_hl5_1 := c13b0; simp only [hl5_1] at c13b0_hl5_1))
         clear c13
         obtain ⟨y149, hy_⟩ : ∃ y_ : List Int, y_ = (x5_1.set (x11_1 : Int).toNat ((Go.bits .and .i64 (ji11) 1) % 256)) := ⟨_, rfl⟩
         replace H : (prefix_digits.l0 k1 a0 a1 y149 (y146.length : Int) (wrap64 (x11_1 + 1))) = some r := rh
         have Ny149 := aE hy_
         clear hy_
         have H' := Aside0.mk H
         clear H
         have p14 : 0 ≤ (x11_1 : Int) := dt
         have q14 : (x11_1 : Int) < ((x5_1.length : Int) : Int) := dt
         obtain ⟨go14, co14, eo14, gb14, gl14, cl14, HG14⟩ := Kd.R_form HO_5.out (by omega)
         (first | cases eo14 | (injection eo14 with ea_ en_ ec_; (first | subst ea_ | (injection ea_ with ea_; subst ea_)); subst ec_; clear en_))
         have GB14 := Aside0.mk gb14
         have GG14 := Aside0.mk HG14
         clear gb14 gl14 HG14
         obtain ⟨hx14_0, hf14_0⟩ := Kd.R_celln 0 HO_5.out (x11_1 : Int) p14 q14
         replace p14 := eq_true p14
         replace q14 := eq_true q14
         have HP15 := Kd.R_putg HO_5.out (x11_1 : Int) ((Go.bits .and .i64 (ji11) 1) % 256)
         go_wp2_with (first | ((with_reducible refine gate_store (t := 5) (p := 24) rfl ?_); refine store_event (t := 5) (p := 24) (v := ?vo_w16) (w1 := (wr.setCell ⟨go14, (x11_1 : Int).toNat, none⟩ (.int .u8 ((Go.bits .and .i64 (ji11) 1) % 256)))) ?hg ?ho ?hn ?hr ?_; (case ho => rfl); (case hg => rfl); (case hn => rfl); (case hr => first | (go_simp; done) | (go_simp; rfl)); intro w16 hw; have hg : wr.grownBy w16 (some go14) := (by rw [hw]; exact HP15.2); have hp_ : Kd.R (Kd.int .u8) 5 w16 w.heap.size (fun _ => True) (.slice (some ⟨go14, 0, none⟩) x5_1.length co7) y149 := (by rw [hw, Ny149.out]; exact HP15.1); clear HP15; have n_ := aC hp_ (aE ((by rw [hw]; exact below_set (HB.out) GB14.out : Below w.heap.size w w16))); clear HO_5 HB; obtain ⟨HO_5, HB⟩ := n_; clear hg hw hp_))
         (try simp only [← hl5_1])
         go_roundg k1
         case measure => have := HK1.out; omega
         case rel => exact ⟨(y149), (wrap64 (x11_1 + 1)), rq, H', ⟨by have := HK1.out; omega⟩, ⟨by (try simp only [hl5_1]); (with_reducible repeat (first | apply Kd.R_alloc | apply Kd.R_drewN | apply Kd.R_drew)); exact HO_5.out⟩, ⟨bl⟩⟩
        ·rw [if_neg c13] at H
         exact absurd H (by simp)
       ·rw [if_neg c12] at H
        exact absurd H (by simp)
      ·rw [if_neg c10] at H
       exact absurd H (by simp)
     ·rw [if_neg c8] at H
      have c8b0 := decide_eq_false c8
      (try (have c8b0_hl5_1 := c8b0; simp only [hl5_1] at c8b0_hl5_1))
      clear c8
      obtain rfl := Option.some.inj H
      go_wp2
      go_ret
      exact ⟨_, re, rU HO_5.out, bl⟩
  ·rw [if_neg c4] at H
   exact absurd H (by simp)
 ·rw [if_neg c3] at H
  exact absurd H (by simp)
def prefix_put.f (k : Nat) (l0 : List (S103)) (l1 : List (S121)) (a2_0 : Bool) (a2_1 : Int) : Option (List Int × Int) := (prefix_line.f k l0 a2_0 a2_1).bind fun bt151 => (if bt151.1 < 0 then (some (([] : List Int), 5)) else (if 0 ≤ bt151.1 then (if bt151.1 < (l1.length : Int) then ((prefix_digits.f k ((rd_T121 l1 bt151.1).f0) ((rd_T121 l1 bt151.1).f1)).bind fun t155 => (if bt151.1 < (l0.length : Int) then ((prefix_digits.f k bt151.2 ((rd_T103 l0 bt151.1).f1)).bind fun t159 => (if t155.length + t159.length < 140737488355328 then (some ((t155 ++ t159), 0)) else (none))) else (none))) else (none)) else (none)))
theorem prefix_put.mono : ∀ a0 a1 a2 a3 k, LeO (prefix_put.f k a0 a1 a2 a3) (prefix_put.f (k + 1) a0 a1 a2 a3) := by
 intro a0 a1 a2 a3 k
 unfold prefix_put.f
 repeat' first
   | (with_reducible exact prefix_digits.mono _ _ _)
   | (with_reducible exact prefix_line.mono _ _ _ _)
   | (with_reducible first | exact LeO.refl _ | exact LeO.none _ | refine LeO.ite ?_ ?_ | refine LeO.bind ?_ (fun _ => ?_))
def prefix_put.T4 : Bool × List (List Nat × List Nat) := (true, [([], []), ([], []), ([0, 1], [0, 1]), ([2], [2]), ([3], [3]), ([], []), ([], []), ([5, 6], [5, 6]), ([7], [7]), ([8], [8]), ([4, 9], [4, 9]), ([], []), ([], []), ([], []), ([12, 13], [12, 13]), ([14], [14]), ([15], [15]), ([11, 16, 10], [11, 16]), ([10, 17, 17], [10, 17]), ([18, 18, 0, 1, 2, 3, 4, 5, 6, 7, 8, 9, 10, 11, 12, 13, 14, 15, 16, 17, 18], [18]), ([19, 0, 1, 2, 3, 4, 5, 6, 7, 8, 9, 10, 11, 12, 13, 14, 15, 16, 17, 18, 19], [])])
def prefix_put.B4 : List Nat := [0, 0, 3, 7, 15, 0, 0, 96, 224, 480, 1023, 0, 0, 0, 12288, 28672, 61440, 131071, 262143, 524287, 1048575]
theorem prefix_put.tab4 : rtab .any (opsOf Tryd.f54 4) = prefix_put.T4 := by kernel_rfl
theorem prefix_put.bits4 : waitsOk prefix_put.T4.2 prefix_put.B4 = true := by kernel_rfl
set_option maxHeartbeats 8000000 in
set_option maxRecDepth 100000 in
theorem prefix_put.calls (k : Nat) (A0 : Option Addr) (c0 : Nat) (l0 : List (S103)) (A1 : Option Addr) (c1 : Nat) (l1 : List (S121)) (a2_0 : Bool) (a2_1 : Int) (r1 : List Int) (r2 : Int) (w : World) (hr0 : Kd.C k103 w A0 l0.length l0) (hc0 : l0.length ≤ c0) (hr1 : Kd.C k121 w A1 l1.length l1) (hc1 : l1.length ≤ c1) (h : prefix_put.f k l0 l1 a2_0 a2_1 = some (r1, r2)) :
  Calls Tryd.prog 54 #[.slice A0 l0.length c0, .slice A1 l1.length c1, .agg #[.bool a2_0, .int .i64 a2_1]] w fun e w' => ∃ v0_ : Value, e = .returned (.tuple #[v0_, .int .i64 r2]) ∧ Kd.R (Kd.int .u8) 5 w' w.heap.size (fun _ => True) v0_ r1 ∧ Below w.heap.size w w' := by
 have hu72 := Tryd.underlying72
 have HR0 := Aside0.mk hr0
 have HC0 := Aside0.mk hc0
 clear hr0 hc0
 have HR1 := Aside0.mk hr1
 have HC1 := Aside0.mk hc1
 clear hr1 hc1
 have HB := Aside0.mk (Below.refl w.heap.size w)
 have H := h
 unfold prefix_put.f at H
 clear h
 obtain ⟨⟨t151, t152⟩, A4, H⟩ := oB H
 try dsimp only at H
 rcases iL H with H1 | H1 <;> clear H <;> obtain ⟨H, c5b0⟩ := H1
 ·simp only [Option.some.injEq, Prod.mk.injEq] at H
  obtain ⟨rfl, rfl⟩ := H
  go_enter Tryd.func54, Tryd.ntmps54
  go_wp2_with (first | ((with_reducible refine gd 5 rfl ?_); refine bx 5 #[.bool a2_0, .int .i64 a2_1] 72 rfl rfl ?_; intro gb150 hg w6 hbox hb; have n_ := aC (bs hb) (aC hbox (aC (gz hg) (aE (gz hg)))); clear HB; obtain ⟨HB, BK150, GW150, GE150⟩ := n_; clear hb hbox hg; obtain ⟨hcz7_0, hcz7_1, hfz7_0, hfz7_1⟩ := cz2f BK150.out) | (refine gF 67 13 Tryd.func67 #[.slice A0 l0.length c0, .agg #[.bool a2_0, .int .i64 a2_1]] rfl rfl ?_; (with_reducible refine (prefix_line.calls k _ _ l0 a2_0 a2_1 t151 t152 _ ?side1 ?side2 A4.out).mono ?_); (case side1 => exact cU (Kd.C_below HR0.out HB.out)); (case side2 => exact HC0.out); rintro e w8 ⟨rfl, hb⟩; refine ⟨_, rfl, ?_⟩; have n_ := aC (blk_below (bU BK150.out) hb) (aE (bs hb)); clear BK150 HB; obtain ⟨BK150, HB⟩ := n_))
  go_ret2
  exact ⟨_, re, by first | exact Kd.R_nil _ _ _ _ _ | exact Kd.N_nil _ _ _ _ _ | exact Kd.V_nil _ _ _ _ _ | exact Kd.Q_nil _ _ _ _ _ | exact Kd.S_nil _ _ _ _ _, bl⟩
 ·by_cases c9 : 0 ≤ t151
  ·rw [if_pos c9] at H
   have c9b0 := decide_eq_true c9
   clear c9
   by_cases c10 : t151 < (l1.length : Int)
   ·rw [if_pos c10] at H
    have c10b0 := decide_eq_true c10
    clear c10
    obtain ⟨t155, A11, H⟩ := oB H
    try dsimp only at H
    by_cases c12 : t151 < (l0.length : Int)
    ·rw [if_pos c12] at H
     have c12b0 := decide_eq_true c12
     clear c12
     obtain ⟨t159, A13, H⟩ := oB H
     try dsimp only at H
     by_cases c14 : t155.length + t159.length < 140737488355328
     ·rw [if_pos c14] at H
      have LMc14 := Aside0.mk c14
      clear c14
      obtain ⟨y162, hy_⟩ : ∃ y_ : List Int, y_ = (t155 ++ t159) := ⟨_, rfl⟩
      replace H : (some (y162, 0)) = some (r1, r2) := rh
      have Ny162 := aE hy_
      clear hy_
      simp only [Option.some.injEq, Prod.mk.injEq] at H
      obtain ⟨rfl, rfl⟩ := H
      go_enter Tryd.func54, Tryd.ntmps54
      try go_wp2_with (first | ((with_reducible refine gd 5 rfl ?_); refine bx 5 #[.bool a2_0, .int .i64 a2_1] 72 rfl rfl ?_; intro gb150 hg w15 hbox hb; have n_ := aC (bs hb) (aC hbox (aC (gz hg) (aE (gz hg)))); clear HB; obtain ⟨HB, BK150, GW150, GE150⟩ := n_; clear hb hbox hg; obtain ⟨hcz16_0, hcz16_1, hfz16_0, hfz16_1⟩ := cz2f BK150.out) | (refine gF 67 13 Tryd.func67 #[.slice A0 l0.length c0, .agg #[.bool a2_0, .int .i64 a2_1]] rfl rfl ?_; (with_reducible refine (prefix_line.calls k _ _ l0 a2_0 a2_1 t151 t152 _ ?side1 ?side2 A4.out).mono ?_); (case side1 => exact cU (Kd.C_below HR0.out HB.out)); (case side2 => exact HC0.out); rintro e w17 ⟨rfl, hb⟩; refine ⟨_, rfl, ?_⟩; have n_ := aC (blk_below (bU BK150.out) hb) (aE (bs hb)); clear BK150 HB; obtain ⟨BK150, HB⟩ := n_))
      have n_ := aC (blk_drew BK150.out) (aE (below_drew1 HB.out))
      clear BK150 HB
      obtain ⟨BK150, HB⟩ := n_
      have p153 : 0 ≤ (t151 : Int) := dt
      have q153 : t151 < (l1.length : Int) := dt
      obtain ⟨ad153, e153, hx153_0, hx153_1⟩ := at_T121 HR1.out t151 p153 q153
      have hw153_1 := hx153_1
      have hw153_0 := hx153_0
      cases e153
      replace hx153_0 := hcB HB.out hx153_0
      replace hx153_1 := hcB HB.out hx153_1
      replace p153 := eq_true p153
      replace q153 := eq_true q153
      have p154 : 0 ≤ (t151 : Int) := dt
      have q154 : t151 < (l1.length : Int) := dt
      obtain ⟨ad154, e154, hx154_0, hx154_1⟩ := at_T121 HR1.out t151 p154 q154
      have hw154_1 := hx154_1
      have hw154_0 := hx154_0
      obtain rfl : ad153 = ad154 := (by injection e154)
      replace hx154_0 := hcB HB.out hx154_0
      replace hx154_1 := hcB HB.out hx154_1
      replace p154 := eq_true p154
      replace q154 := eq_true q154
      have p158 : 0 ≤ (t151 : Int) := dt
      have q158 : t151 < (l0.length : Int) := dt
      obtain ⟨ad158, e158, hx158_0, hx158_1, hx158_2, hx158_3⟩ := at_T103 HR0.out t151 p158 q158
      have hw158_3 := hx158_3
      have hw158_2 := hx158_2
      have hw158_1 := hx158_1
      have hw158_0 := hx158_0
      cases e158
      replace hx158_0 := hcB HB.out hx158_0
      replace hx158_1 := hcB HB.out hx158_1
      replace hx158_2 := hcB HB.out hx158_2
      replace hx158_3 := hcB HB.out hx158_3
      replace p158 := eq_true p158
      replace q158 := eq_true q158
      refine st 21 (fun w' => w'.cell? (ad153.add ((t151).toNat * 2)) = some (.int .i64 ((rd_T121 l1 t151).f0)) ∧ w'.cell? ⟨(ad153.add ((t151).toNat * 2)).block, (ad153.add ((t151).toNat * 2)).off + 1, none⟩ = some (.int .i64 ((rd_T121 l1 t151).f1)) ∧ w'.cell? (ad153.add ((t151).toNat * 2)) = some (.int .i64 ((rd_T121 l1 t151).f0)) ∧ w'.cell? ⟨(ad153.add ((t151).toNat * 2)).block, (ad153.add ((t151).toNat * 2)).off + 1, none⟩ = some (.int .i64 ((rd_T121 l1 t151).f1)) ∧ w'.cell? (ad158.add ((t151).toNat * 4)) = some (.int .i64 ((rd_T103 l0 t151).f0)) ∧ w'.cell? ⟨(ad158.add ((t151).toNat * 4)).block, (ad158.add ((t151).toNat * 4)).off + 1, none⟩ = some (.int .i64 ((rd_T103 l0 t151).f1)) ∧ w'.cell? ⟨(ad158.add ((t151).toNat * 4)).block, (ad158.add ((t151).toNat * 4)).off + 2, none⟩ = some (.int .i64 ((rd_T103 l0 t151).f2)) ∧ w'.cell? ⟨(ad158.add ((t151).toNat * 4)).block, (ad158.add ((t151).toNat * 4)).off + 3, none⟩ = some (.int .i64 ((rd_T103 l0 t151).f3))) [] (bv 21 0) prefix_put.tab4 prefix_put.bits4 ⟨(hcB HB.out hw153_0), (hcB HB.out hw153_1), (hcB HB.out hw154_0), (hcB HB.out hw154_1), (hcB HB.out hw158_0), (hcB HB.out hw158_1), (hcB HB.out hw158_2), (hcB HB.out hw158_3)⟩ (fun hHeld HT_ HW_ => ?_)
      generalize w17.drew = w18 at BK150 HB hx153_0 hx153_1 hx154_0 hx154_1 hx158_0 hx158_1 hx158_2 hx158_3 hHeld ⊢
      refine pu 0 18 (bv 21 1) HT_ rfl rfl ?_
      refine pu 1 19 (bv 21 3) HT_ rfl rfl ?_
      refine pu 2 20 (bv 21 7) HT_ rfl rfl ?_
      refine pu 3 21 (bv 21 15) HT_ rfl rfl ?_
      refine pu 5 23 (bv 21 47) HT_ rfl rfl ?_
      refine pu 6 24 (bv 21 111) HT_ rfl rfl ?_
      refine pu 7 25 (bv 21 239) HT_ rfl rfl ?_
      refine pu 8 26 (bv 21 495) HT_ rfl rfl ?_
      refine pu 11 29 (bv 21 2543) HT_ rfl rfl ?_
      refine pu 12 30 (bv 21 6639) HT_ rfl rfl ?_
      refine pu 13 31 (bv 21 14831) HT_ rfl rfl ?_
      refine pu 14 32 (bv 21 31215) HT_ rfl rfl ?_
      refine pu 15 33 (bv 21 63983) HT_ rfl rfl ?_
      refine tk 4 22 (bv 21 63999) HT_ HW_ hHeld rfl rfl (by rintro w' ⟨s0, s1, s2, s3, s4, s5, s6, s7⟩; exact yl) ?_
      refine tk 9 27 (bv 21 64511) HT_ HW_ hHeld rfl rfl (by rintro w' ⟨s0, s1, s2, s3, s4, s5, s6, s7⟩; exact yl) ?_
      refine tk 16 34 (bv 21 130047) HT_ HW_ hHeld rfl rfl (by rintro w' ⟨s0, s1, s2, s3, s4, s5, s6, s7⟩; exact yl) ?_
      refine one_ (i := 10) (N := some 28) (bv 21 131071) rfl rfl (one_of HT_.out (by kernel_rfl)) (by decide) (fun K hK => ?_)
      refine gK Tryd.func68 rfl #[.int .i64 ((rd_T121 l1 t151).f0), .int .i64 ((rd_T121 l1 t151).f1)] rfl rfl ?_
      with_reducible refine (prefix_digits.calls k ((rd_T121 l1 t151).f0) ((rd_T121 l1 t151).f1) t155 _ A11.out).mono ?_
      rintro e w19 ⟨v156, rfl, ho0, hb⟩
      refine ⟨_, rfl, ?_⟩
      have n_ := aC (Kd.R_lower ho0 bz) (aC (blk_below (bU BK150.out) hb) (aE (bs hb)))
      clear BK150 HB
      obtain ⟨HO157, BK150, HB⟩ := n_
      (try clear hb)
      (try clear hb2)
      (try clear hk)
      (try clear hi)
      (try clear ho0)
      refine hK.out _ _ ⟨(hcB HB.out hw153_0), (hcB HB.out hw153_1), (hcB HB.out hw154_0), (hcB HB.out hw154_1), (hcB HB.out hw158_0), (hcB HB.out hw158_1), (hcB HB.out hw158_2), (hcB HB.out hw158_3)⟩ (fun hHeld => ?_)
      clear hK K
      refine nm (some 28) ?_
      refine one_ (i := 17) (N := some 35) (bv 21 262143) rfl rfl (one_of HT_.out (by kernel_rfl)) (by decide) (fun K hK => ?_)
      refine gK Tryd.func68 rfl #[.int .i64 t152, .int .i64 ((rd_T103 l0 t151).f1)] rfl rfl ?_
      with_reducible refine (prefix_digits.calls k t152 ((rd_T103 l0 t151).f1) t159 _ A13.out).mono ?_
      rintro e w20 ⟨v160, rfl, ho0, hb⟩
      refine ⟨_, rfl, ?_⟩
      have n_ := aC (Kd.R_elder' (rU HO157.out) (Kd.R_base ho0) hb) (aC (Kd.R_lower (Kd.R_new' ho0 (Kd.R_lt (rU HO157.out))) bz) (aC (blk_below (bU BK150.out) hb) (aE (bs hb))))
      clear HO157 BK150 HB
      obtain ⟨HO157, HO161, BK150, HB⟩ := n_
      (try clear hb)
      (try clear hb2)
      (try clear hk)
      (try clear hi)
      (try clear ho0)
      obtain ⟨Ao22, co22, eo22⟩ := Kd.R_slice HO161.out
      (first | subst eo22 | (injection eo22 with f1_ f2_ f3_; have f4_ := f1_.symm; have f5_ := f3_.symm; clear f1_ f2_ f3_; subst f4_; subst f5_))
      refine hK.out _ _ ⟨(hcB HB.out hw153_0), (hcB HB.out hw153_1), (hcB HB.out hw154_0), (hcB HB.out hw154_1), (hcB HB.out hw158_0), (hcB HB.out hw158_1), (hcB HB.out hw158_2), (hcB HB.out hw158_3)⟩ (fun hHeld => ?_)
      clear hK K
      refine nm (some 35) ?_
      refine one_ (i := 18) (N := some 36) (bv 21 524287) rfl rfl (one_of HT_.out (by kernel_rfl)) (by decide) (fun K hK => ?_)
      refine Kd.R_append_rows_step (Kd.int .u8) (w0 := w) w.heap.size (by rfl) (.tmp 28) (.tmp 35) 22 5 (.int .u8 0) 1 rfl Tryd.underlying22 info5 rfl (by decide) (by omega) v156 t155 t159 _ _ _ (fun k_ => some k_ ≠ (.slice Ao22 t159.length co22 : Value).ownBlock) (fun _ => False) rfl rfl ?aO ?aR (fun _ _ h => h) (fun _ h => h.elim) ?aF ?aB ?aS ?aL ?_
      (case aR => repeat (first | exact (Kd.R_reads' HO161.out).2.2 | (with_reducible refine Kd.C_alloc ?_ _) | (with_reducible refine Kd.C_drewN ?_ _) | (with_reducible refine Kd.C_drew ?_)))
      (case aB => exact bl)
      (case aF => exact (fun k_ hk => Kd.fresh' (Kd.R_lt (rU HO161.out)) k_ hk))
      (case aO => exact (rU (Kd.R_mono HO157.out (fun _ hk => hk.2))))
      (case aS => exact bz)
      (case aL => have := LMc14.out; omega)
      intro v163 w21 ho hb hg hat
      rw [← Ny162.out] at ho
      have n_ := aC (blk_grown (bU BK150.out) hg (Kd.R_ne HO157.out BK150.out (by decide))) (aC (Kd.R_after (ok := (fun _ => True)) (rU HO161.out) hg hat) (aC hb (aE ho)))
      clear BK150 HO161 HB HO157
      obtain ⟨BK150, HO161, HB, HO164⟩ := n_
      clear ho hb hg hat
      refine hK.out _ _ ⟨(hcB HB.out hw153_0), (hcB HB.out hw153_1), (hcB HB.out hw154_0), (hcB HB.out hw154_1), (hcB HB.out hw158_0), (hcB HB.out hw158_1), (hcB HB.out hw158_2), (hcB HB.out hw158_3)⟩ (fun hHeld => ?_)
      clear hK K
      refine nm (some 36) ?_
      refine pu 19 6 (bv 21 1048575) HT_ rfl rfl ?_
      refine pu 20 7 (bv 21 2097151) HT_ rfl rfl ?_
      refine done_ (done_of HT_.out (by kernel_rfl)) ?_
      try go_wp2
      go_ret2
      exact ⟨_, re, rU (Kd.R_mono HO164.out (fun _ hk => trivial)), bl⟩
     ·rw [if_neg c14] at H
      exact absurd H (by simp)
    ·rw [if_neg c12] at H
     exact absurd H (by simp)
   ·rw [if_neg c10] at H
    exact absurd H (by simp)
  ·rw [if_neg c9] at H
   exact absurd H (by simp)
mutual
def prefix_codes.l0 : Nat → List (S103) → List (S121) → Int → Int → Int → Option ((List (S121)))
 | 0, _, _, _, _, _ => none
 | k + 1, x0, x3, x5, x169000, x169001 => if x5 ≤ 15 then (if 0 ≤ (wrap64 (x5 - x169001)) then (prefix_codes.l1 k x0 x3 x5 x0 (x0.length : Int) 0 (shl .i64 x169000 (wrap64 (x5 - x169001))) x5) else (none)) else (some x3)
def prefix_codes.l1 : Nat → List (S103) → List (S121) → Int → List (S103) → Int → Int → Int → Int → Option ((List (S121)))
 | 0, _, _, _, _, _, _, _, _ => none
 | k + 1, x0, x3, x5, x25, x26, x27, x169000, x169001 => if x27 < x26 then (if 0 ≤ x27 then (if x27 < (x25.length : Int) then (if ((rd_T103 x25 x27).f0) = x5 then (if x27 < (x3.length : Int) then (prefix_codes.l1 k x0 (x3.set (x27 : Int).toNat (⟨x169000, x169001⟩ : S121)) x5 x25 x26 (wrap64 (x27 + 1)) (wrap64 (x169000 + 1)) x169001) else (none)) else (prefix_codes.l1 k x0 x3 x5 x25 x26 (wrap64 (x27 + 1)) x169000 x169001)) else (none)) else (none)) else (prefix_codes.l0 k x0 x3 (wrap64 (x5 + 1)) x169000 x169001)
end
def prefix_codes.f (k : Nat) (l0 : List (S103)) : Option ((List (S121))) := if 0 ≤ (l0.length : Int) then (if ((l0.length : Int) : Int).toNat ≤ 17592186044416 then (prefix_codes.l0 k l0 (List.replicate ((l0.length : Int) : Int).toNat z121) 1 0 1) else (none)) else (none)
theorem prefix_codes.mono_l : ∀ k, (∀ y0 y1 y2 y3 y4, LeO (prefix_codes.l0 k y0 y1 y2 y3 y4) (prefix_codes.l0 (k + 1) y0 y1 y2 y3 y4)) ∧ (∀ y0 y1 y2 y3 y4 y5 y6 y7, LeO (prefix_codes.l1 k y0 y1 y2 y3 y4 y5 y6 y7) (prefix_codes.l1 (k + 1) y0 y1 y2 y3 y4 y5 y6 y7))
 | 0 => ⟨fun _ _ _ _ _ r h => by simp [prefix_codes.l0] at h, fun _ _ _ _ _ _ _ _ r h => by simp [prefix_codes.l1] at h⟩
 | k + 1 => by
  obtain ⟨ih0, ih1⟩ := prefix_codes.mono_l k
  refine ⟨?_, ?_⟩
  ·intro y0 y1 y2 y3 y4
   unfold prefix_codes.l0
   repeat' first
   | (with_reducible exact ih0 _ _ _ _ _)
   | (with_reducible exact ih1 _ _ _ _ _ _ _ _)
   | (with_reducible first | exact LeO.refl _ | exact LeO.none _ | refine LeO.ite ?_ ?_ | refine LeO.bind ?_ (fun _ => ?_))
  ·intro y0 y1 y2 y3 y4 y5 y6 y7
   unfold prefix_codes.l1
   repeat' first
   | (with_reducible exact ih0 _ _ _ _ _)
   | (with_reducible exact ih1 _ _ _ _ _ _ _ _)
   | (with_reducible first | exact LeO.refl _ | exact LeO.none _ | refine LeO.ite ?_ ?_ | refine LeO.bind ?_ (fun _ => ?_))
theorem prefix_codes.mono : ∀ a0 k, LeO (prefix_codes.f k a0) (prefix_codes.f (k + 1) a0) := by
 intro a0 k
 obtain ⟨ih0, ih1⟩ := prefix_codes.mono_l k
 unfold prefix_codes.f
 repeat' first
   | (with_reducible exact ih0 _ _ _ _ _)
   | (with_reducible exact ih1 _ _ _ _ _ _ _ _)
   | (with_reducible first | exact LeO.refl _ | exact LeO.none _ | refine LeO.ite ?_ ?_ | refine LeO.bind ?_ (fun _ => ?_))
set_option maxHeartbeats 8000000 in
set_option maxRecDepth 100000 in
theorem prefix_codes.calls (k : Nat) (A0 : Option Addr) (c0 : Nat) (l0 : List (S103)) (r : List (S121)) (w : World) (hr0 : Kd.C k103 w A0 l0.length l0) (hc0 : l0.length ≤ c0) (h : prefix_codes.f k l0 = some r) :
  Calls Tryd.prog 55 #[.slice A0 l0.length c0] w fun e w' => ∃ v0_ : Value, e = .returned (v0_) ∧ Kd.R k121 121 w' w.heap.size (fun _ => True) v0_ r ∧ Below w.heap.size w w' := by
 have hu121 := Tryd.underlying121
 have hu103 := Tryd.underlying103
 have HR0 := Aside0.mk hr0
 have HC0 := Aside0.mk hc0
 clear hr0 hc0
 have HB := Aside0.mk (Below.refl w.heap.size w)
 have H := h
 unfold prefix_codes.f at H
 clear h
 by_cases c2 : 0 ≤ (l0.length : Int)
 ·rw [if_pos c2] at H
  have c2b0 := eq_true c2
  have c2b1 := decide_eq_true c2
  clear c2
  by_cases c3 : ((l0.length : Int) : Int).toNat ≤ 17592186044416
  ·rw [if_pos c3] at H
   have c3b0 := eq_true c3
   have c3b1 := decide_eq_true c3
   clear c3
   obtain ⟨y165, hy_⟩ : ∃ y_ : List (S121), y_ = (List.replicate ((l0.length : Int) : Int).toNat z121) := ⟨_, rfl⟩
   replace H : (prefix_codes.l0 k l0 y165 1 0 1) = some r := rh
   have Ny165 := aE hy_
   clear hy_
   have H' := Aside0.mk H
   clear H
   go_enter Tryd.func55, Tryd.ntmps55
   go_wp2_with (first | ((with_reducible refine gd 10 rfl ?_); refine Kd.R_make k121 _ 121 rfl (N := 10) rfl 100 _ _ rfl (l0.length : Int) rfl rfl Tryd.underlying100 (.agg #[(.int .i64 0), (.int .i64 0)]) 16 info121 rfl (by decide) (by omega) z121 (ok := fun _ => True) (okp := fun _ => True) (k121_mkM _ _ _ z121 ) (fun _ hk => hk) trivial (dt) (Nat.le_trans (Nat.mul_le_mul_right _ (dt : (l0.length : Int).toNat ≤ 17592186044416)) (by omega)) (Below.refl _ _) (Nat.le_refl _) ?_; intro v166 w4 ho5 hb hg_ hnew_; clear hg_ hnew_; (first | rw [← Ny165.out] at ho5 | (simp only [Int.reduceToNat] at ho5; rw [← Ny165.out] at ho5)); have n_ := aC (Kd.R_lower ho5 bz) (aE (bs hb)); clear HB; obtain ⟨HO167, HB⟩ := n_; clear hb ho5) | ((with_reducible refine gd 4 rfl ?_); refine bx 4 #[.int .i64 0, .int .i64 0] 121 rfl rfl ?_; intro gb168 hg w6 hbox hb; have n_ := aC (Kd.R_below (Kd.R_elderB (rU HO167.out) gb168 (Nat.le_of_eq hg.symm)) hb) (aC (bs hb) (aC hbox (aC (gz hg) (aE (gz hg))))); clear HO167 HB; obtain ⟨HO167, HB, BK168, GW168, GE168⟩ := n_; clear hb hbox hg; obtain ⟨hcz7_0, hcz7_1, hfz7_0, hfz7_1⟩ := cz2f BK168.out))
   go_loopg [5] k (fun kq v5 w' => ∃ (x3_1 : List (S121)) (x5_1 : Int) (x169000_1 : Int) (x169001_1 : Int), v5 = .int .i64 x5_1 ∧ Aside0 (prefix_codes.l0 kq l0 x3_1 x5_1 x169000_1 x169001_1 = some r) ∧ Aside0 (kq ≤ k) ∧ Aside0 (Kd.R k121 121 w' w.heap.size (fun k_ => k_ ≠ gb168) v166 x3_1) ∧ Aside0 (w'.heap[gb168]? = some (.cells #[.int .i64 x169000_1, .int .i64 x169001_1] 121 (0, 0))) ∧ Aside0 (Below w.heap.size w w'))
   case atStart => exact ⟨(y165), (1), (0), (1), rq, H', ⟨Nat.le_refl _⟩, ⟨rU (Kd.R_mono (Kd.R_far (p := ⟨gb168, 1, none⟩) (Kd.R_far (p := ⟨gb168, 0, none⟩) (Kd.R_mono HO167.out (fun k_ hk => (⟨hk, hk.2⟩ : _ ∧ k_ ≠ gb168))) (fun _ hk => hk.2) (.int .i64 0)) (fun _ hk => hk.2) (.int .i64 1)) (fun _ hk => hk.1.2))⟩, ⟨by (with_reducible repeat (first | refine blk_drewN ?_ _ | refine blk_drew ?_ | refine blk_alloc ?_ _)); refine blk_put (cs := #[.int .i64 0, .int .i64 0]) ?_ 1 _ rfl; (with_reducible repeat (first | refine blk_drewN ?_ _ | refine blk_drew ?_ | refine blk_alloc ?_ _)); refine blk_put (cs := #[.int .i64 0, .int .i64 0]) ?_ 0 _ rfl; (with_reducible repeat (first | refine blk_drewN ?_ _ | refine blk_drew ?_ | refine blk_alloc ?_ _)); exact BK168.out⟩, ⟨bl⟩⟩
   case round =>
    clear H'
    obtain ⟨x3_1, x5_1, x169000_1, x169001_1, rfl, HA, HK1, HO_3, BK168, HB⟩ := hrel
    cases gk with
    | zero => exact absurd HA.out (by simp [prefix_codes.l0])
    | succ k1 =>
     have H := HA.out
     clear HA
     simp only [prefix_codes.l0] at H
     rcases iL H with H1 | H1 <;> clear H <;> obtain ⟨H, c8b0⟩ := H1
     ·obtain ⟨ji9, hji9⟩ : ∃ j_ : Int, (wrap64 (x5_1 - x169001_1)) = j_ := ⟨_, rfl⟩
      replace H : (if 0 ≤ (ji9) then (prefix_codes.l1 k1 l0 x3_1 x5_1 l0 (l0.length : Int) 0 (shl .i64 x169000_1 (ji9)) x5_1) else (none)) = some r := by first | (rw [hji9] at H; exact H) | (simp only [hji9] at H ⊢; exact H)
      have hji9w : (IntKind.i64.wrap (x5_1 - x169001_1)) = ji9 := (i64_w _).trans hji9
      by_cases c10 : 0 ≤ (ji9)
      ·rw [if_pos c10] at H
       have c10b0 := eq_true c10
       have c10b1 := decide_eq_true c10
       clear c10
       obtain ⟨ji11, hji11⟩ : ∃ j_ : Int, (shl .i64 x169000_1 (ji9)) = j_ := ⟨_, rfl⟩
       replace H : (prefix_codes.l1 k1 l0 x3_1 x5_1 l0 (l0.length : Int) 0 ji11 x5_1) = some r := by first | (rw [hji11] at H; exact H) | (simp only [hji11] at H ⊢; exact H)
       have hji11_ : (IntKind.i64.wrap (x169000_1 * 2 ^ min (ji9).toNat 64)) = ji11 := hji11
       have hji11z : (ji9) ≤ 64 → (IntKind.i64.wrap (x169000_1 * 2 ^ (ji9).toNat)) = ji11 := shl_small hji11
       have hji11y : (wrap64 (x169000_1 * 2 ^ min (ji9).toNat 64)) = ji11 := (i64_w _).symm.trans hji11_
       have hji11x : (ji9) ≤ 64 → (wrap64 (x169000_1 * 2 ^ (ji9).toNat)) = ji11 := fun h_ => (i64_w _).symm.trans (hji11z h_)
       have H' := Aside0.mk H
       clear H
       obtain ⟨hcz12_0, hcz12_1, hfz12_0, hfz12_1⟩ := cz2f BK168.out
       go_wp2
       go_loopg [27] k1 (fun kq v27 w' => ∃ (x3_2 : List (S121)) (x27_2 : Int) (x169000_2 : Int) (x169001_2 : Int), v27 = .int .i64 x27_2 ∧ Aside0 (prefix_codes.l1 kq l0 x3_2 x5_1 l0 (l0.length : Int) x27_2 x169000_2 x169001_2 = some r) ∧ Aside0 (kq ≤ k1) ∧ Aside0 (Kd.R k121 121 w' w.heap.size (fun k_ => k_ ≠ gb168) v166 x3_2) ∧ Aside0 (w'.heap[gb168]? = some (.cells #[.int .i64 x169000_2, .int .i64 x169001_2] 121 (0, 0))) ∧ Aside0 (Below w.heap.size w w'))
       case atStart => exact ⟨(x3_1), (0), (ji11), (x5_1), rq, H', ⟨Nat.le_refl _⟩, ⟨rU (Kd.R_mono (Kd.R_far (p := ⟨gb168, 1, none⟩) (Kd.R_far (p := ⟨gb168, 0, none⟩) (Kd.R_mono HO_3.out (fun k_ hk => (⟨hk, hk⟩ : _ ∧ k_ ≠ gb168))) (fun _ hk => hk.2) (.int .i64 ji11)) (fun _ hk => hk.2) (.int .i64 x5_1)) (fun _ hk => hk.1))⟩, ⟨by (with_reducible repeat (first | refine blk_drewN ?_ _ | refine blk_drew ?_ | refine blk_alloc ?_ _)); refine blk_put (cs := #[.int .i64 ji11, .int .i64 x169001_1]) ?_ 1 _ rfl; (with_reducible repeat (first | refine blk_drewN ?_ _ | refine blk_drew ?_ | refine blk_alloc ?_ _)); refine blk_put (cs := #[.int .i64 x169000_1, .int .i64 x169001_1]) ?_ 0 _ rfl; (with_reducible repeat (first | refine blk_drewN ?_ _ | refine blk_drew ?_ | refine blk_alloc ?_ _)); exact BK168.out⟩, ⟨bl⟩⟩
       case round =>
        clear H'
        obtain ⟨x3_2, x27_2, x169000_2, x169001_2, rfl, HA, HK2, HO_3, BK168, HB⟩ := hrel
        cases gk with
        | zero => exact absurd HA.out (by simp [prefix_codes.l1])
        | succ k2 =>
         have H := HA.out
         clear HA
         simp only [prefix_codes.l1] at H
         rcases iL H with H1 | H1 <;> clear H <;> obtain ⟨H, c13b0⟩ := H1
         ·by_cases c14 : 0 ≤ x27_2
          ·rw [if_pos c14] at H
           have c14b0 := decide_eq_true c14
           clear c14
           by_cases c15 : x27_2 < (l0.length : Int)
           ·rw [if_pos c15] at H
            have c15b0 := decide_eq_true c15
            clear c15
            rcases iE H with H1 | H1 <;> clear H <;> obtain ⟨H, c16b0, c16b1, c16⟩ := H1
            ·by_cases c17 : x27_2 < (x3_2.length : Int)
             ·rw [if_pos c17] at H
              have c17b0 := decide_eq_true c17
              clear c17
              obtain ⟨y171, hy_⟩ : ∃ y_ : List (S121), y_ = (x3_2.set (x27_2 : Int).toNat (⟨x169000_2, x169001_2⟩ : S121)) := ⟨_, rfl⟩
              replace H : (prefix_codes.l1 k2 l0 y171 x5_1 l0 (l0.length : Int) (wrap64 (x27_2 + 1)) (wrap64 (x169000_2 + 1)) x169001_2) = some r := rh
              have Ny171 := aE hy_
              clear hy_
              have H' := Aside0.mk H
              clear H
              have p169 : 0 ≤ (x27_2 : Int) := dt
              have q169 : x27_2 < (l0.length : Int) := dt
              obtain ⟨ad169, e169, hx169_0, hx169_1, hx169_2, hx169_3⟩ := at_T103 HR0.out x27_2 p169 q169
              cases e169
              replace hx169_0 := hcB HB.out hx169_0
              replace hx169_1 := hcB HB.out hx169_1
              replace hx169_2 := hcB HB.out hx169_2
              replace hx169_3 := hcB HB.out hx169_3
              replace p169 := eq_true p169
              replace q169 := eq_true q169
              go_wp2_with (first | ((with_reducible refine gd 7 rfl ?_); refine bx 7 #[.int .i64 0, .int .i64 0, .int .i64 0, .int .i64 0] 103 rfl rfl ?_; intro gb170 hg w19 hbox hb; have n_ := aC (Kd.R_below (rU HO_3.out) hb) (aC (blk_below (bU BK168.out) hb) (aC (bs hb) (aC hbox (aC (gz hg) (aC (gz hg) (aC (gn hg (bU BK168.out)) (aE (gm hg (bU BK168.out))))))))); clear HO_3 BK168 HB; obtain ⟨HO_3, BK168, HB, BK170, GW170, GE170, NB168_170, NB170_168⟩ := n_; clear hb hbox hg; have hnb20 := NB170_168.out; have hnc20 := NB168_170.out; obtain ⟨hcz21_0, hcz21_1, hcz21_2, hcz21_3, hfz21_0, hfz21_1, hfz21_2, hfz21_3⟩ := cz4f BK170.out) | ((with_reducible refine gate_store (t := 103) (p := 7) rfl ?_); refine store_event (t := 103) (p := 7) (v := ?vo_w22) (w1 := ((((w19.setCell ⟨gb170, 0, none⟩ (.int .i64 ((rd_T103 l0 x27_2).f0))).setCell ⟨gb170, 1, none⟩ (.int .i64 ((rd_T103 l0 x27_2).f1))).setCell ⟨gb170, 2, none⟩ (.int .i64 ((rd_T103 l0 x27_2).f2))).setCell ⟨gb170, 3, none⟩ (.int .i64 ((rd_T103 l0 x27_2).f3)))) ?hg ?ho ?hn ?hr ?_; (case ho => rfl); (case hg => rfl); (case hn => rfl); (case hr => first | (go_simp; done) | (go_simp; rfl)); intro w22 hw; have n_ := aC (show Kd.R k121 121 w22 w.heap.size (fun k_ => k_ ≠ gb168) v166 x3_2 from (by rw [hw]; exact (rU (Kd.R_mono (Kd.R_far (p := ⟨gb170, 3, none⟩) (Kd.R_far (p := ⟨gb170, 2, none⟩) (Kd.R_far (p := ⟨gb170, 1, none⟩) (Kd.R_far (p := ⟨gb170, 0, none⟩) (Kd.R_types HO_3.out BK170.out (by decide)) (fun _ hk => hk.2) (.int .i64 ((rd_T103 l0 x27_2).f0))) (fun _ hk => hk.2) (.int .i64 ((rd_T103 l0 x27_2).f1))) (fun _ hk => hk.2) (.int .i64 ((rd_T103 l0 x27_2).f2))) (fun _ hk => hk.2) (.int .i64 ((rd_T103 l0 x27_2).f3))) (fun _ hk => hk.1))))) (aC (show w22.heap[gb168]? = some (.cells #[.int .i64 x169000_2, .int .i64 x169001_2] 121 (0, 0)) from (by rw [hw]; exact (by (with_reducible repeat (first | refine blk_drewN ?_ _ | refine blk_drew ?_ | refine blk_alloc ?_ _)); refine blk_far ?_ NB168_170.out _; (with_reducible repeat (first | refine blk_drewN ?_ _ | refine blk_drew ?_ | refine blk_alloc ?_ _)); refine blk_far ?_ NB168_170.out _; (with_reducible repeat (first | refine blk_drewN ?_ _ | refine blk_drew ?_ | refine blk_alloc ?_ _)); refine blk_far ?_ NB168_170.out _; (with_reducible repeat (first | refine blk_drewN ?_ _ | refine blk_drew ?_ | refine blk_alloc ?_ _)); refine blk_far ?_ NB168_170.out _; (with_reducible repeat (first | refine blk_drewN ?_ _ | refine blk_drew ?_ | refine blk_alloc ?_ _)); exact BK168.out))) (aC (show w22.heap[gb170]? = some (.cells #[.int .i64 ((rd_T103 l0 x27_2).f0), .int .i64 ((rd_T103 l0 x27_2).f1), .int .i64 ((rd_T103 l0 x27_2).f2), .int .i64 ((rd_T103 l0 x27_2).f3)] 103 (0, 0)) from (by rw [hw]; exact (by (with_reducible repeat (first | refine blk_drewN ?_ _ | refine blk_drew ?_ | refine blk_alloc ?_ _)); refine blk_put (cs := #[.int .i64 ((rd_T103 l0 x27_2).f0), .int .i64 ((rd_T103 l0 x27_2).f1), .int .i64 ((rd_T103 l0 x27_2).f2), .int .i64 0]) ?_ 3 _ rfl; (with_reducible repeat (first | refine blk_drewN ?_ _ | refine blk_drew ?_ | refine blk_alloc ?_ _)); refine blk_put (cs := #[.int .i64 ((rd_T103 l0 x27_2).f0), .int .i64 ((rd_T103 l0 x27_2).f1), .int .i64 0, .int .i64 0]) ?_ 2 _ rfl; (with_reducible repeat (first | refine blk_drewN ?_ _ | refine blk_drew ?_ | refine blk_alloc ?_ _)); refine blk_put (cs := #[.int .i64 ((rd_T103 l0 x27_2).f0), .int .i64 0, .int .i64 0, .int .i64 0]) ?_ 1 _ rfl; (with_reducible repeat (first | refine blk_drewN ?_ _ | refine blk_drew ?_ | refine blk_alloc ?_ _)); refine blk_put (cs := #[.int .i64 0, .int .i64 0, .int .i64 0, .int .i64 0]) ?_ 0 _ rfl; (with_reducible repeat (first | refine blk_drewN ?_ _ | refine blk_drew ?_ | refine blk_alloc ?_ _)); exact BK170.out))) (aE (show Below w.heap.size w w22 from (by rw [hw]; exact bl))))); clear hw HO_3 BK168 BK170 HB; obtain ⟨HO_3, BK168, BK170, HB⟩ := n_; obtain ⟨hcz23_0, hcz23_1, hcz23_2, hcz23_3, hfz23_0, hfz23_1, hfz23_2, hfz23_3⟩ := cz4f BK170.out; obtain ⟨hcz24_0, hcz24_1, hfz24_0, hfz24_1⟩ := cz2f BK168.out; have p18 : 0 ≤ (x27_2 : Int) := dt; have q18 : (x27_2 : Int) < ((x3_2.length : Int) : Int) := dt; obtain ⟨go18, co18, eo18, gb18, gl18, cl18, HG18⟩ := Kd.R_form HO_3.out (by omega); (first | cases eo18 | (injection eo18 with ea_ en_ ec_; (first | subst ea_ | (injection ea_ with ea_; subst ea_)); subst ec_; clear en_)); have GB18 := Aside0.mk gb18; have GG18 := Aside0.mk HG18; clear gb18 gl18 HG18; obtain ⟨ce18, hcl18, hM18, hcc18, hfr18⟩ := Kd.R_elem HO_3.out z121 (x27_2 : Int) p18 q18; obtain rfl := k121_openM hM18; have hx18_0 : w22.cell? ⟨go18, (x27_2 : Int).toNat * 2, none⟩ = some (.int .i64 ((rd_T121 x3_2 x27_2).f0)) := hcc18 0 _ rfl; have hx18_1 : w22.cell? ⟨go18, (x27_2 : Int).toNat * 2 + 1, none⟩ = some (.int .i64 ((rd_T121 x3_2 x27_2).f1)) := hcc18 1 _ rfl; have hf18_0 : w22.frozen? ⟨go18, (x27_2 : Int).toNat * 2, none⟩ = false := hfr18 0; have hf18_1 : w22.frozen? ⟨go18, (x27_2 : Int).toNat * 2 + 1, none⟩ = false := hfr18 1; clear hcl18 hcc18 hfr18 hM18; replace p18 := eq_true p18; replace q18 := eq_true q18; have HX25 := Aside0.mk (show Kd.R k121 121 w22 w.heap.size (fun k_ => k_ ≠ gb168) (.slice (some ⟨go18, 0, none⟩) x3_2.length co18) x3_2 from (rU HO_3.out)); obtain ⟨ce25, hcl25, hM25, hcc25, hfr25⟩ := Kd.R_elem HX25.out z121 (x27_2 : Int) (dt) (by have h_ : (x27_2 : Int) < ((x3_2.length : Int) : Int) := dt; first | exact h_ | (have e_ := (Kd.R_reads' HO_3.out).1; omega) | simpa using h_); obtain rfl := k121_openM hM25; have HP25 := Kd.R_seg HX25.out (x27_2 : Int) (dt) (by have h_ : (x27_2 : Int) < ((x3_2.length : Int) : Int) := dt; first | exact h_ | (have e_ := (Kd.R_reads' HO_3.out).1; omega) | simpa using h_) (seg := [.int .i64 x169000_2, .int .i64 x169001_2]) (j := 0) hcl25 hcc25 (show 2 ≤ 2 from by decide) (x' := (⟨x169000_2, x169001_2⟩ : S121)) (k121_mkM _ _ _ (⟨x169000_2, x169001_2⟩ : S121) ) (fun _ hk => hk); have hx25_0 := hcc25 0 _ rfl; (try simp only [show (k121).sz = 2 from rfl, Nat.mul_one, Nat.add_zero] at hx25_0); have hf25_0 := hfr25 0; (try simp only [show (k121).sz = 2 from rfl, Nat.mul_one, Nat.add_zero] at hf25_0); have hx25_1 := hcc25 1 _ rfl; (try simp only [show (k121).sz = 2 from rfl, Nat.mul_one, Nat.add_zero] at hx25_1); have hf25_1 := hfr25 1; (try simp only [show (k121).sz = 2 from rfl, Nat.mul_one, Nat.add_zero] at hf25_1); clear hcl25 hcc25 hfr25 hM25) | ((with_reducible refine gate_store (t := 121) (p := 39) rfl ?_); refine store_event (t := 121) (p := 39) (v := ?vo_w26) (w1 := ((w22.setCell ⟨go18, (x27_2 : Int).toNat * 2, none⟩ (.int .i64 x169000_2)).setCell ⟨go18, (x27_2 : Int).toNat * 2 + 1, none⟩ (.int .i64 x169001_2))) ?hg ?ho ?hn ?hr ?_; (case ho => rfl); (case hg => rfl); (case hn => rfl); (case hr => first | (go_simp; done) | (go_simp; rfl)); intro w26 hw; have hg : w22.grownBy w26 (some go18) := (by rw [hw]; exact HP25.2); have hp_ : Kd.R k121 121 w26 w.heap.size (fun k_ => k_ ≠ gb168) (.slice (some ⟨go18, 0, none⟩) x3_2.length co18) y171 := (by rw [hw, Ny171.out]; exact HP25.1); clear HP25; have n_ := aC hp_ (aC (blk_grown (bU BK168.out) hg (Kd.R_away HO_3.out (fun _ hk => hk))) (aC (blk_grown (g := gb170) (o := .cells #[.int .i64 ((rd_T103 l0 x27_2).f0), .int .i64 ((rd_T103 l0 x27_2).f1), .int .i64 ((rd_T103 l0 x27_2).f2), .int .i64 ((rd_T103 l0 x27_2).f3)] 103 (0, 0)) (bU BK170.out) hg (Kd.R_ne HO_3.out BK170.out (by decide))) (aE ((by rw [hw]; exact below_set (below_set (HB.out) GB18.out) GB18.out : Below w.heap.size w w26))))); clear HO_3 BK168 BK170 HB; obtain ⟨HO_3, BK168, BK170, HB⟩ := n_; clear hg hw hp_; obtain ⟨hcz27_0, hcz27_1, hfz27_0, hfz27_1⟩ := cz2f BK168.out))
              go_roundg k2
              case measure => have := HK1.out; have := HK2.out; omega
              case rel => exact ⟨(y171), (wrap64 (x27_2 + 1)), (wrap64 (x169000_2 + 1)), (x169001_2), rq, H', ⟨by have := HK1.out; have := HK2.out; omega⟩, ⟨rU (Kd.R_mono (Kd.R_far (p := ⟨gb168, 0, none⟩) (Kd.R_mono HO_3.out (fun k_ hk => (⟨hk, hk⟩ : _ ∧ k_ ≠ gb168))) (fun _ hk => hk.2) (.int .i64 (wrap64 (x169000_2 + 1)))) (fun _ hk => hk.1))⟩, ⟨by (with_reducible repeat (first | refine blk_drewN ?_ _ | refine blk_drew ?_ | refine blk_alloc ?_ _)); refine blk_put (cs := #[.int .i64 x169000_2, .int .i64 x169001_2]) ?_ 0 _ rfl; (with_reducible repeat (first | refine blk_drewN ?_ _ | refine blk_drew ?_ | refine blk_alloc ?_ _)); exact BK168.out⟩, ⟨bl⟩⟩
             ·rw [if_neg c17] at H
              exact absurd H (by simp)
            ·have H' := Aside0.mk H
             clear H
             have p169 : 0 ≤ (x27_2 : Int) := dt
             have q169 : x27_2 < (l0.length : Int) := dt
             obtain ⟨ad169, e169, hx169_0, hx169_1, hx169_2, hx169_3⟩ := at_T103 HR0.out x27_2 p169 q169
             cases e169
             replace hx169_0 := hcB HB.out hx169_0
             replace hx169_1 := hcB HB.out hx169_1
             replace hx169_2 := hcB HB.out hx169_2
             replace hx169_3 := hcB HB.out hx169_3
             replace p169 := eq_true p169
             replace q169 := eq_true q169
             go_wp2_with (first | ((with_reducible refine gd 7 rfl ?_); refine bx 7 #[.int .i64 0, .int .i64 0, .int .i64 0, .int .i64 0] 103 rfl rfl ?_; intro gb170 hg w28 hbox hb; have n_ := aC (Kd.R_below (rU HO_3.out) hb) (aC (blk_below (bU BK168.out) hb) (aC (bs hb) (aC hbox (aC (gz hg) (aC (gz hg) (aC (gn hg (bU BK168.out)) (aE (gm hg (bU BK168.out))))))))); clear HO_3 BK168 HB; obtain ⟨HO_3, BK168, HB, BK170, GW170, GE170, NB168_170, NB170_168⟩ := n_; clear hb hbox hg; have hnb29 := NB170_168.out; have hnc29 := NB168_170.out; obtain ⟨hcz30_0, hcz30_1, hcz30_2, hcz30_3, hfz30_0, hfz30_1, hfz30_2, hfz30_3⟩ := cz4f BK170.out))
             go_roundg k2
             case measure => have := HK1.out; have := HK2.out; omega
             case rel => exact ⟨(x3_2), (wrap64 (x27_2 + 1)), (x169000_2), (x169001_2), rq, H', ⟨by have := HK1.out; have := HK2.out; omega⟩, ⟨rU (Kd.R_mono (Kd.R_far (p := ⟨gb170, 3, none⟩) (Kd.R_far (p := ⟨gb170, 2, none⟩) (Kd.R_far (p := ⟨gb170, 1, none⟩) (Kd.R_far (p := ⟨gb170, 0, none⟩) (Kd.R_types HO_3.out BK170.out (by decide)) (fun _ hk => hk.2) (.int .i64 ((rd_T103 l0 x27_2).f0))) (fun _ hk => hk.2) (.int .i64 ((rd_T103 l0 x27_2).f1))) (fun _ hk => hk.2) (.int .i64 ((rd_T103 l0 x27_2).f2))) (fun _ hk => hk.2) (.int .i64 ((rd_T103 l0 x27_2).f3))) (fun _ hk => hk.1))⟩, ⟨by (with_reducible repeat (first | refine blk_drewN ?_ _ | refine blk_drew ?_ | refine blk_alloc ?_ _)); refine blk_far ?_ NB168_170.out _; (with_reducible repeat (first | refine blk_drewN ?_ _ | refine blk_drew ?_ | refine blk_alloc ?_ _)); refine blk_far ?_ NB168_170.out _; (with_reducible repeat (first | refine blk_drewN ?_ _ | refine blk_drew ?_ | refine blk_alloc ?_ _)); refine blk_far ?_ NB168_170.out _; (with_reducible repeat (first | refine blk_drewN ?_ _ | refine blk_drew ?_ | refine blk_alloc ?_ _)); refine blk_far ?_ NB168_170.out _; (with_reducible repeat (first | refine blk_drewN ?_ _ | refine blk_drew ?_ | refine blk_alloc ?_ _)); exact BK168.out⟩, ⟨bl⟩⟩
           ·rw [if_neg c15] at H
            exact absurd H (by simp)
          ·rw [if_neg c14] at H
           exact absurd H (by simp)
         ·have H' := Aside0.mk H
          clear H
          go_wp2
          go_roundg k2
          case measure => have := HK1.out; have := HK2.out; omega
          case rel => exact ⟨(x3_2), (wrap64 (x5_1 + 1)), (x169000_2), (x169001_2), rq, H', ⟨by have := HK1.out; have := HK2.out; omega⟩, ⟨rU HO_3.out⟩, ⟨bU BK168.out⟩, ⟨bl⟩⟩
      ·rw [if_neg c10] at H
       exact absurd H (by simp)
     ·obtain rfl := Option.some.inj H
      go_wp2
      go_ret
      exact ⟨_, re, rU (Kd.R_mono HO_3.out (fun _ hk => trivial)), bl⟩
  ·rw [if_neg c3] at H
   exact absurd H (by simp)
 ·rw [if_neg c2] at H
  exact absurd H (by simp)
end Go.Proofs.YtidgpjcgoocpeaaDoor.PTopRuns
