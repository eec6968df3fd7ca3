-- Written by a program of this session (wip/tools/myprint.py) over the kit's print. Not trusted: Lean checks it.
import Derived.Test.YtmggeebpbacoiaaPLetterOnesx0
namespace Go.Proofs.Ytmggeebpbacoiaa.PLetterOnes
open Go.RowKit Go.Proofs.YtmggeebpbacoiaaW.PrintWords Go.Proofs.YtmggeebpbacoiaaW.PrintLast Go.Proofs.YtmggeebpbacoiaaW.PrintMore
attribute [local go_sem] max2_int min2_int max_two min_two max_three min_three max_four min_four   -- for this text's walks alone
set_option linter.unusedVariables false
set_option linter.unusedSimpArgs false

/-! ### letter_Words: function 7 -/
mutual
def letter_Words.l0 : Nat → ByteArray → ByteArray → List Int → Int → Int → Option (Int × Int)
 | 0, _, _, _, _, _ => none
 | k + 1, x0, x1, x6, x23, x24 => if x24 < x23 then (if 0 ≤ x24 then (if x24 < (x6.length : Int) then (letter_Words.l0 k x0 x1 (x6.set (x24 : Int).toNat x24) x23 (wrap64 (x24 + 1))) else (none)) else (none)) else (letter_Words.l1 k x0 x1 x6 (x0.size : Int) 0)
def letter_Words.l1 : Nat → ByteArray → ByteArray → List Int → Int → Int → Option (Int × Int)
 | 0, _, _, _, _, _ => none
 | k + 1, x0, x1, x6, x33, x34 => if x34 < x33 then (if 0 < (x6.length : Int) then (letter_Words.l2 k x0 x1 (x6.set (0 : Int).toNat (wrap64 ((rd x6 0) + 1))) x34 (rd x6 0) x33 x34 (x1.size : Int) 0) else (none)) else (if 0 ≤ (x1.size : Int) then (if (x1.size : Int) < (x6.length : Int) then (some (rd x6 (x1.size : Int), 0)) else (none)) else (none))
def letter_Words.l2 : Nat → ByteArray → ByteArray → List Int → Int → Int → Int → Int → Int → Int → Option (Int × Int)
 | 0, _, _, _, _, _, _, _, _, _ => none
 | k + 1, x0, x1, x6, x8, x9, x33, x34, x46, x47 => if x47 < x46 then (if 0 ≤ x8 then (if x8 < (x0.size : Int) then (if 0 ≤ x47 then (if x47 < (x1.size : Int) then (if (bt x0 x8) = (bt x1 x47) then (if 0 ≤ (wrap64 (x47 + 1)) then (if (wrap64 (x47 + 1)) < (x6.length : Int) then (if x47 < (x6.length : Int) then (letter_Words.l2 k x0 x1 (x6.set ((wrap64 (x47 + 1)) : Int).toNat (mn (mn x9 (wrap64 ((rd x6 x47) + 1))) (wrap64 ((rd x6 (wrap64 (x47 + 1))) + 1)))) x8 (rd x6 (wrap64 (x47 + 1))) x33 x34 x46 (wrap64 (x47 + 1))) else (none)) else (none)) else (none)) else (if 0 ≤ (wrap64 (x47 + 1)) then (if (wrap64 (x47 + 1)) < (x6.length : Int) then (if x47 < (x6.length : Int) then (letter_Words.l2 k x0 x1 (x6.set ((wrap64 (x47 + 1)) : Int).toNat (mn (mn (wrap64 (x9 + 1)) (wrap64 ((rd x6 x47) + 1))) (wrap64 ((rd x6 (wrap64 (x47 + 1))) + 1)))) x8 (rd x6 (wrap64 (x47 + 1))) x33 x34 x46 (wrap64 (x47 + 1))) else (none)) else (none)) else (none))) else (none)) else (none)) else (none)) else (none)) else (letter_Words.l1 k x0 x1 x6 x33 (wrap64 (x34 + 1)))
end
def letter_Words.f (k : Nat) (a0 : ByteArray) (a1 : ByteArray) : Option (Int × Int) := if (mx (a0.size : Int) (a1.size : Int)) > 100 then (some (0, 2)) else (if 0 ≤ (wrap64 ((a1.size : Int) + 1)) then (if (wrap64 ((a1.size : Int) + 1) : Int).toNat ≤ 35184372088832 then ((some (List.replicate (wrap64 ((a1.size : Int) + 1) : Int).toNat 0 : List Int)).bind fun y101 => (letter_Words.l0 k a0 a1 y101 (y101.length : Int) 0)) else (none)) else (none))
theorem letter_Words.mono_l : ∀ k, (∀ y0 y1 y2 y3 y4, LeO (letter_Words.l0 k y0 y1 y2 y3 y4) (letter_Words.l0 (k + 1) y0 y1 y2 y3 y4)) ∧ (∀ y0 y1 y2 y3 y4, LeO (letter_Words.l1 k y0 y1 y2 y3 y4) (letter_Words.l1 (k + 1) y0 y1 y2 y3 y4)) ∧ (∀ y0 y1 y2 y3 y4 y5 y6 y7 y8, LeO (letter_Words.l2 k y0 y1 y2 y3 y4 y5 y6 y7 y8) (letter_Words.l2 (k + 1) y0 y1 y2 y3 y4 y5 y6 y7 y8))
 | 0 => ⟨fun _ _ _ _ _ r h => by simp [letter_Words.l0] at h, fun _ _ _ _ _ r h => by simp [letter_Words.l1] at h, fun _ _ _ _ _ _ _ _ _ r h => by simp [letter_Words.l2] at h⟩
 | k + 1 => by
  obtain ⟨ih0, ih1, ih2⟩ := letter_Words.mono_l k
  refine ⟨?_, ?_, ?_⟩
  ·intro y0 y1 y2 y3 y4
   unfold letter_Words.l0
   repeat' first
   | (with_reducible exact ih0 _ _ _ _ _)
   | (with_reducible exact ih1 _ _ _ _ _)
   | (with_reducible exact ih2 _ _ _ _ _ _ _ _ _)
   | (with_reducible exact LeO.refl _)
   | (with_reducible exact LeO.none _)
   | (with_reducible refine LeO.ite ?_ ?_)
   | (with_reducible refine LeO.bind ?_ (fun _ => ?_))
   | exact ih0 _ _ _ _ _
   | exact ih1 _ _ _ _ _
   | exact ih2 _ _ _ _ _ _ _ _ _
   | exact LeO.none _
   | refine LeO.ite ?_ ?_
   | refine LeO.bind ?_ (fun _ => ?_)
  ·intro y0 y1 y2 y3 y4
   unfold letter_Words.l1
   repeat' first
   | (with_reducible exact ih0 _ _ _ _ _)
   | (with_reducible exact ih1 _ _ _ _ _)
   | (with_reducible exact ih2 _ _ _ _ _ _ _ _ _)
   | (with_reducible exact LeO.refl _)
   | (with_reducible exact LeO.none _)
   | (with_reducible refine LeO.ite ?_ ?_)
   | (with_reducible refine LeO.bind ?_ (fun _ => ?_))
   | exact ih0 _ _ _ _ _
   | exact ih1 _ _ _ _ _
   | exact ih2 _ _ _ _ _ _ _ _ _
   | exact LeO.none _
   | refine LeO.ite ?_ ?_
   | refine LeO.bind ?_ (fun _ => ?_)
  ·intro y0 y1 y2 y3 y4 y5 y6 y7 y8
   unfold letter_Words.l2
   repeat' first
   | (with_reducible exact ih0 _ _ _ _ _)
   | (with_reducible exact ih1 _ _ _ _ _)
   | (with_reducible exact ih2 _ _ _ _ _ _ _ _ _)
   | (with_reducible exact LeO.refl _)
   | (with_reducible exact LeO.none _)
   | (with_reducible refine LeO.ite ?_ ?_)
   | (with_reducible refine LeO.bind ?_ (fun _ => ?_))
   | exact ih0 _ _ _ _ _
   | exact ih1 _ _ _ _ _
   | exact ih2 _ _ _ _ _ _ _ _ _
   | exact LeO.none _
   | refine LeO.ite ?_ ?_
   | refine LeO.bind ?_ (fun _ => ?_)
theorem letter_Words.mono : ∀ a0 a1 k, LeO (letter_Words.f k a0 a1) (letter_Words.f (k + 1) a0 a1) := by
 intro a0 a1 k
 obtain ⟨ih0, ih1, ih2⟩ := letter_Words.mono_l k
 unfold letter_Words.f
 repeat' first
   | (with_reducible exact ih0 _ _ _ _ _)
   | (with_reducible exact ih1 _ _ _ _ _)
   | (with_reducible exact ih2 _ _ _ _ _ _ _ _ _)
   | (with_reducible exact LeO.refl _)
   | (with_reducible exact LeO.none _)
   | (with_reducible refine LeO.ite ?_ ?_)
   | (with_reducible refine LeO.bind ?_ (fun _ => ?_))
   | exact ih0 _ _ _ _ _
   | exact ih1 _ _ _ _ _
   | exact ih2 _ _ _ _ _ _ _ _ _
   | exact LeO.none _
   | refine LeO.ite ?_ ?_
   | refine LeO.bind ?_ (fun _ => ?_)
set_option maxHeartbeats 8000000 in
set_option maxRecDepth 100000 in
theorem letter_Words.calls (k : Nat) (a0 : ByteArray) (a1 : ByteArray) (r1 : Int) (r2 : Int) (w : World) (h : letter_Words.f k a0 a1 = some (r1, r2)) :
  Calls Try.prog 7 #[.string a0, .string a1] w fun e w' => e = .returned (.tuple #[.int .i64 r1, .int .i64 r2]) ∧ Below w.heap.size w w' := by
 have HB := Aside0.mk (Below.refl w.heap.size w)
 have H : (if (mx (a0.size : Int) (a1.size : Int)) > 100 then (some (0, 2)) else (if 0 ≤ (wrap64 ((a1.size : Int) + 1)) then (if (wrap64 ((a1.size : Int) + 1) : Int).toNat ≤ 35184372088832 then ((some (List.replicate (wrap64 ((a1.size : Int) + 1) : Int).toNat 0 : List Int)).bind fun y101 => (letter_Words.l0 k a0 a1 y101 (y101.length : Int) 0)) else (none)) else (none))) = some (r1, r2) := h
 clear h
 obtain ⟨ji3, hji3⟩ : ∃ j_ : Int, (mx (a0.size : Int) (a1.size : Int)) = j_ := ⟨_, rfl⟩
 replace H : (if (ji3) > 100 then (some (0, 2)) else (if 0 ≤ (wrap64 ((a1.size : Int) + 1)) then (if (wrap64 ((a1.size : Int) + 1) : Int).toNat ≤ 35184372088832 then ((some (List.replicate (wrap64 ((a1.size : Int) + 1) : Int).toNat 0 : List Int)).bind fun y101 => (letter_Words.l0 k a0 a1 y101 (y101.length : Int) 0)) else (none)) else (none))) = some (r1, r2) := by first | (rw [hji3] at H; exact H) | (simp only [hji3] at H ⊢; exact H)
 (try (have hji3l : 0 ≤ ji3 := by (rw [← hji3]; unfold mx; (repeat' split) <;> omega)))
 (try (have hji3m : 0 ≤ ji3 := by omega))
 have hji3_ : (if (a0.size : Int) < (a1.size : Int) then (a1.size : Int) else (a0.size : Int)) = ji3 := hji3
 have hji3n_ : (if a0.size < a1.size then (a1.size : Int) else (a0.size : Int)) = ji3 := by have h_ := hji3_; simp only [Int.ofNat_lt] at h_; exact h_
 by_cases c4 : (ji3) > 100
 ·rw [if_pos c4] at H
  have c4b0 : decide (100 < (ji3)) = true := decide_eq_true c4
  clear c4
  simp only [Option.some.injEq, Prod.mk.injEq] at H
  obtain ⟨rfl, rfl⟩ := H
  go_enter Try.func7, Try.ntmps7
  go_wp2
  go_ret2
  exact ⟨by first | rfl | (simp [errW_none, errW_some] <;> rfl) | (simp only [← hji3]; first | rfl | (simp [errW_none, errW_some] <;> rfl)) | (simp [*, errW_none, errW_some] <;> rfl), by repeat (first | (with_reducible first | exact HB.out | apply below_alloc | apply pw_below_drewN | apply below_drew1) | exact HB.out)⟩
 ·rw [if_neg c4] at H
  have c4b0 : decide (100 < (ji3)) = false := decide_eq_false c4
  clear c4
  obtain ⟨ji5, hji5⟩ : ∃ j_ : Int, (wrap64 ((a1.size : Int) + 1)) = j_ := ⟨_, rfl⟩
  replace H : (if 0 ≤ (ji5) then (if (ji5 : Int).toNat ≤ 35184372088832 then ((some (List.replicate (ji5 : Int).toNat 0 : List Int)).bind fun y101 => (letter_Words.l0 k a0 a1 y101 (y101.length : Int) 0)) else (none)) else (none)) = some (r1, r2) := by first | (rw [hji5] at H; exact H) | (simp only [hji5] at H ⊢; exact H)
  have hji5w : (IntKind.i64.wrap ((a1.size : Int) + 1)) = ji5 := (i64_w _).trans hji5
  by_cases c6 : 0 ≤ (ji5)
  ·rw [if_pos c6] at H
   have c6b0 := eq_true c6
   have c6b1 : decide (0 ≤ (ji5)) = true := decide_eq_true c6
   clear c6
   by_cases c7 : (ji5 : Int).toNat ≤ 35184372088832
   ·rw [if_pos c7] at H
    have c7b0 := eq_true c7
    have c7b1 : decide ((ji5 : Int).toNat ≤ 35184372088832) = true := decide_eq_true c7
    clear c7
    obtain ⟨y101, hy101⟩ : ∃ y_ : List Int, y_ = (List.replicate (ji5 : Int).toNat 0) := ⟨_, rfl⟩
    replace H : (letter_Words.l0 k a0 a1 y101 (y101.length : Int) 0) = some (r1, r2) := by first | (rw [hy101]; with_reducible exact H) | (have H2_ := (Option.bind_some _ _).symm.trans H; rw [hy101]; with_reducible exact H2_) | (have H2_ := (Option.bind_some _ _).symm.trans H; with_reducible exact H2_) | with_reducible exact H | (rw [hy101]; exact H) | exact H
    have Ny101 := Aside0.mk hy101
    clear hy101
    have H' := Aside0.mk H
    clear H
    go_enter Try.func7, Try.ntmps7
    go_wp2_with (first | ((with_reducible refine gate_dst (N := 21) rfl ?_); refine Kd.R_make (Kd.int .i64) _ 3 rfl (N := 21) rfl 40 _ _ rfl ji5 rfl rfl Try.underlying40 (.int .i64 0) 8 info3 rfl (by decide) (by omega) 0 (ok := fun _ => True) (okp := fun _ => True) rfl (fun _ hk => hk) trivial (of_decide_eq_true (by first | (with_reducible assumption) | assumption)) (Nat.le_trans (Nat.mul_le_mul_right _ (of_decide_eq_true (by first | (with_reducible assumption) | assumption) : ji5.toNat ≤ 35184372088832)) (by omega)) (Below.refl _ _) (Nat.le_refl _) ?_; intro v102 w8 ho9 hb hg_ hnew_; clear hg_ hnew_; (first | rw [← Ny101.out] at ho9 | (simp only [Int.reduceToNat] at ho9; rw [← Ny101.out] at ho9)); have n0_ := Aside0.mk (Kd.R_lower ho9 (below_size (by repeat (first | (with_reducible first | exact HB.out | apply below_alloc | apply pw_below_drewN | apply below_drew1) | exact HB.out)))); have n1_ := Aside0.mk (below_step (by repeat (first | (with_reducible first | exact HB.out | apply below_alloc | apply pw_below_drewN | apply below_drew1) | exact HB.out)) hb); clear HB; have HO103 := n0_; have HB := n1_; clear n0_ n1_; clear hb ho9; obtain ⟨Ao10, co10, eo10⟩ := Kd.R_slice HO103.out; subst eo10))
    go_loopg [24] k (fun kq v24 w' => ∃ (x6_1 : List Int) (x24_1 : Int), v24 = .int .i64 x24_1 ∧ Aside0 (letter_Words.l0 kq a0 a1 x6_1 (y101.length : Int) x24_1 = some (r1, r2)) ∧ Aside0 (kq ≤ k) ∧ Aside0 (Kd.R (Kd.int .i64) 3 w' w.heap.size (fun _ => True) (.slice Ao10 y101.length co10) x6_1) ∧ Aside0 (Below w.heap.size w w'))
    case atStart => exact ⟨(y101), (0), (by first | rfl | (simp; done) | (simp [*]; done)), H', ⟨Nat.le_refl _⟩, ⟨by (with_reducible repeat (first | apply Kd.R_alloc | apply Kd.R_drewN | apply Kd.R_drew)); exact HO103.out⟩, ⟨by repeat (first | (with_reducible first | exact HB.out | apply below_alloc | apply pw_below_drewN | apply below_drew1) | exact HB.out)⟩⟩
    case round =>
     clear H'
     try clear p2
     try clear c4
     try clear c4b0
     try clear c6
     try clear c6b0
     try clear c6b1
     try clear p6
     try clear c7
     try clear c7b0
     try clear c7b1
     obtain ⟨x6_1, x24_1, rfl, HA, HK1, HO_6, HB⟩ := hrel
     have hl6_1 := (Kd.R_reads' HO_6.out).1
     rw [hl6_1] at HO_6
     (try simp only [hl6_1])
     cases gk with
     | zero => exact absurd HA.out (by simp [letter_Words.l0])
     | succ k1 =>
      have H := HA.out
      clear HA
      simp only [letter_Words.l0] at H
      by_cases c11 : x24_1 < (y101.length : Int)
      ·rw [if_pos c11] at H
       have c11b0 : decide (x24_1 < (y101.length : Int)) = true := decide_eq_true c11
       (try (have c11b0_hl6_1 := c11b0; simp only [hl6_1] at c11b0_hl6_1))
       clear c11
       by_cases c12 : 0 ≤ x24_1
       ·rw [if_pos c12] at H
        have c12b0 : decide (0 ≤ x24_1) = true := decide_eq_true c12
        clear c12
        by_cases c13 : x24_1 < (x6_1.length : Int)
        ·rw [if_pos c13] at H
         have c13b0 : decide (x24_1 < (x6_1.length : Int)) = true := decide_eq_true c13
         (try (have c13b0_hl6_1 := c13b0; simp only [hl6_1] at c13b0_hl6_1))
         clear c13
         obtain ⟨y104, hy104⟩ : ∃ y_ : List Int, y_ = (x6_1.set (x24_1 : Int).toNat x24_1) := ⟨_, rfl⟩
         replace H : (letter_Words.l0 k1 a0 a1 y104 (y101.length : Int) (wrap64 (x24_1 + 1))) = some (r1, r2) := by first | (rw [hy104]; with_reducible exact H) | (have H2_ := (Option.bind_some _ _).symm.trans H; rw [hy104]; with_reducible exact H2_) | (have H2_ := (Option.bind_some _ _).symm.trans H; with_reducible exact H2_) | with_reducible exact H | (rw [hy104]; exact H) | exact H
         have Ny104 := Aside0.mk hy104
         clear hy104
         have H' := Aside0.mk H
         clear H
         have p14 : 0 ≤ (x24_1 : Int) := of_decide_eq_true (by first | (with_reducible assumption) | assumption)
         have q14 : (x24_1 : Int) < ((x6_1.length : Int) : Int) := of_decide_eq_true (by first | (with_reducible assumption) | assumption)
         obtain ⟨go14, co14, eo14, gb14, gl14, cl14, HG14⟩ := Kd.R_form HO_6.out (by omega)
         (first | cases eo14 | (injection eo14 with ea_ en_ ec_; (first | subst ea_ | (injection ea_ with ea_; subst ea_)); subst ec_; clear en_))
         have GB14 := Aside0.mk gb14
         have GG14 := Aside0.mk HG14
         clear gb14 gl14 HG14
         obtain ⟨hx14_0, hf14_0⟩ := Kd.R_celln 0 HO_6.out (x24_1 : Int) p14 q14
         replace p14 := eq_true p14
         replace q14 := eq_true q14
         have HP15 := Kd.R_putg HO_6.out (x24_1 : Int) x24_1
         go_wp2_with (first | ((with_reducible refine gate_store (t := 3) (p := 30) rfl ?_); (try (rw [drewN_self wr]; generalize hq_ : World.drewN wr _ = wr; have n0_ := Aside0.mk (Kd.R_at hq_ HO_6.out); have n1_ := Aside0.mk (below_at hq_ HB.out); clear hq_ HO_6 HB; have HO_6 := n0_; have HB := n1_; clear n0_ n1_; (try (have HP15 := Kd.R_putg HO_6.out (x24_1 : Int) x24_1)); (try (obtain ⟨hx14_0, hf14_0⟩ := Kd.R_celln 0 HO_6.out (x24_1 : Int) (of_eq_true p14) (of_eq_true q14))))); refine store_event (t := 3) (p := 30) (v := ?vo_w16) (w1 := (wr.setCell ⟨go14, (x24_1 : Int).toNat, none⟩ (.int .i64 x24_1))) ?hg ?ho ?hn ?hr ?_; (case ho => rfl); (case hg => rfl); (case hn => rfl); (case hr => first | (go_simp; done) | (go_simp; rfl)); intro w16 hw; have hg : wr.grownBy w16 (some go14) := (by rw [hw]; exact HP15.2); have hp_ : Kd.R (Kd.int .i64) 3 w16 w.heap.size (fun _ => True) (.slice (some ⟨go14, 0, none⟩) x6_1.length co10) y104 := (by rw [hw, Ny104.out]; exact HP15.1); clear HP15; have n0_ := Aside0.mk (hp_); have n1_ := Aside0.mk ((by rw [hw]; exact below_set (HB.out) GB14.out : Below w.heap.size w w16)); clear HO_6; clear HB; have HO_6 := n0_; have HB := n1_; clear n0_ n1_; clear hg hw hp_))
         (try simp only [← hl6_1])
         go_roundg k1
         case measure => have := HK1.out; omega
         case rel => exact ⟨(y104), (wrap64 (x24_1 + 1)), (by first | rfl | (simp; done) | (simp [*]; done)), H', ⟨by have := HK1.out; omega⟩, ⟨by (try simp only [hl6_1]); (with_reducible repeat (first | apply Kd.R_alloc | apply Kd.R_drewN | apply Kd.R_drew)); exact HO_6.out⟩, ⟨by repeat (first | (with_reducible first | exact HB.out | apply below_alloc | apply pw_below_drewN | apply below_drew1) | exact HB.out)⟩⟩
        ·rw [if_neg c13] at H
         exact absurd H (by simp)
       ·rw [if_neg c12] at H
        exact absurd H (by simp)
      ·rw [if_neg c11] at H
       have c11b0 : decide (x24_1 < (y101.length : Int)) = false := decide_eq_false c11
       (try (have c11b0_hl6_1 := c11b0; simp only [hl6_1] at c11b0_hl6_1))
       clear c11
       have H' := Aside0.mk H
       clear H
       go_wp2
       go_loopg [34] k1 (fun kq v34 w' => ∃ (x6_2 : List Int) (x34_2 : Int), v34 = .int .i64 x34_2 ∧ Aside0 (letter_Words.l1 kq a0 a1 x6_2 (a0.size : Int) x34_2 = some (r1, r2)) ∧ Aside0 (kq ≤ k1) ∧ Aside0 (Kd.R (Kd.int .i64) 3 w' w.heap.size (fun _ => True) (.slice Ao10 x6_1.length co10) x6_2) ∧ Aside0 (Below w.heap.size w w'))
       case atStart => exact ⟨(x6_1), (0), (by first | rfl | (simp; done) | (simp [*]; done)), H', ⟨Nat.le_refl _⟩, ⟨by (try simp only [hl6_1]); (with_reducible repeat (first | apply Kd.R_alloc | apply Kd.R_drewN | apply Kd.R_drew)); exact HO_6.out⟩, ⟨by repeat (first | (with_reducible first | exact HB.out | apply below_alloc | apply pw_below_drewN | apply below_drew1) | exact HB.out)⟩⟩
       case round =>
        clear H'
        try clear c1
        try clear p1
        try clear q1
        try clear hx1
        try clear p2
        try clear c4
        try clear c4b0
        try clear c6
        try clear c6b0
        try clear c6b1
        try clear p6
        try clear c7
        try clear c7b0
        try clear c7b1
        try clear c11
        try clear c11b0
        try clear c12
        try clear c12b0
        try clear c13
        try clear c13b0
        try clear p14
        try clear q14
        try clear hx14
        try clear hf14
        try clear hx14_0
        try clear p14
        try clear p2
        try clear p6
        try clear q14
        obtain ⟨x6_2, x34_2, rfl, HA, HK2, HO_6, HB⟩ := hrel
        have hl6_2 := (Kd.R_reads' HO_6.out).1
        rw [hl6_2] at HO_6
        (try simp only [hl6_2])
        cases gk with
        | zero => exact absurd HA.out (by simp [letter_Words.l1])
        | succ k2 =>
         have H := HA.out
         clear HA
         simp only [letter_Words.l1] at H
         by_cases c17 : x34_2 < (a0.size : Int)
         ·rw [if_pos c17] at H
          have c17b0 : decide (x34_2 < (a0.size : Int)) = true := decide_eq_true c17
          clear c17
          by_cases c18 : 0 < (x6_2.length : Int)
          ·rw [if_pos c18] at H
           have c18b0 : decide (0 < (x6_2.length : Int)) = true := decide_eq_true c18
           (try (have c18b0_hl6_1 := c18b0; simp only [hl6_1] at c18b0_hl6_1))
           (try (have c18b0_hl6_2 := c18b0; simp only [hl6_2] at c18b0_hl6_2))
           have c18b1 : decide (0 < x6_2.length) = true := decide_eq_true (by omega)
           (try (have c18b1_hl6_1 := c18b1; simp only [hl6_1] at c18b1_hl6_1))
           (try (have c18b1_hl6_2 := c18b1; simp only [hl6_2] at c18b1_hl6_2))
           clear c18
           obtain ⟨y108, hy108⟩ : ∃ y_ : List Int, y_ = (x6_2.set (0 : Int).toNat (wrap64 ((rd x6_2 0) + 1))) := ⟨_, rfl⟩
           replace H : (letter_Words.l2 k2 a0 a1 y108 x34_2 (rd x6_2 0) (a0.size : Int) x34_2 (a1.size : Int) 0) = some (r1, r2) := by first | (rw [hy108]; with_reducible exact H) | (have H2_ := (Option.bind_some _ _).symm.trans H; rw [hy108]; with_reducible exact H2_) | (have H2_ := (Option.bind_some _ _).symm.trans H; with_reducible exact H2_) | with_reducible exact H | (rw [hy108]; exact H) | exact H
           have Ny108 := Aside0.mk hy108
           clear hy108
           have H' := Aside0.mk H
           clear H
           have p106 : 0 ≤ (0 : Int) := (by omega)
           have q106 : 0 < (x6_2.length : Int) := of_decide_eq_true (by first | (with_reducible assumption) | assumption)
           obtain ⟨ad106, e106, hx106_0⟩ := Kd.at_int (Kd.R_reads' HO_6.out).2.2 0 p106 q106
           cases e106
           have qi106 : (0 < x6_2.length) = True := eq_true (by omega)
           (try rw [show ((0 : Int)).toNat = 0 from rfl] at hx106_0)
           (try rw [Addr.add_zero'] at hx106_0)
           replace p106 := eq_true p106
           replace q106 := eq_true q106
           have p107 : 0 ≤ (0 : Int) := (by omega)
           have q107 : 0 < (x6_2.length : Int) := of_decide_eq_true (by first | (with_reducible assumption) | assumption)
           obtain ⟨ad107, e107, hx107_0⟩ := Kd.at_int (Kd.R_reads' HO_6.out).2.2 0 p107 q107
           obtain rfl : ad106 = ad107 := (by injection e107)
           have qi107 : (0 < x6_2.length) = True := eq_true (by omega)
           (try rw [show ((0 : Int)).toNat = 0 from rfl] at hx107_0)
           (try rw [Addr.add_zero'] at hx107_0)
           replace p107 := eq_true p107
           replace q107 := eq_true q107
           have p19 : 0 ≤ (0 : Int) := (by omega)
           have q19 : (0 : Int) < ((x6_2.length : Int) : Int) := of_decide_eq_true (by first | (with_reducible assumption) | assumption)
           have qi19 : (0 < x6_2.length) = True := eq_true (by omega)
           obtain ⟨go19, co19, eo19, gb19, gl19, cl19, HG19⟩ := Kd.R_form HO_6.out (by omega)
           (first | cases eo19 | (injection eo19 with ea_ en_ ec_; (first | subst ea_ | (injection ea_ with ea_; subst ea_)); subst ec_; clear en_))
           have GB19 := Aside0.mk gb19
           have GG19 := Aside0.mk HG19
           clear gb19 gl19 HG19
           (first | simp only [add_plain] at hx106_0 | skip)
           (first | simp only [add_plain] at hx107_0 | skip)
           obtain ⟨hx19_0, hf19_0⟩ := Kd.R_celln 0 HO_6.out (0 : Int) p19 q19
           (try rw [show ((0 : Int)).toNat = 0 from rfl] at hx19_0)
           (try simp only [Nat.reduceMul, Nat.zero_mul, Nat.zero_add, Nat.reduceAdd] at hx19_0)
           (try rw [show ((0 : Int)).toNat = 0 from rfl] at hf19_0)
           (try simp only [Nat.reduceMul, Nat.zero_mul, Nat.zero_add, Nat.reduceAdd] at hf19_0)
           replace p19 := eq_true p19
           replace q19 := eq_true q19
           have HP20 := Kd.R_putg HO_6.out (0 : Int) (wrap64 ((rd x6_2 0) + 1))
           go_wp2_with (first | ((with_reducible refine gate_store (t := 3) (p := 44) rfl ?_); (try (rw [drewN_self wr]; generalize hq_ : World.drewN wr _ = wr; have n0_ := Aside0.mk (Kd.R_at hq_ HO_6.out); have n1_ := Aside0.mk (below_at hq_ HB.out); clear hq_ HO_6 HB; have HO_6 := n0_; have HB := n1_; clear n0_ n1_; (try (have HP20 := Kd.R_putg HO_6.out (0 : Int) (wrap64 ((rd x6_2 0) + 1)))); (try (obtain ⟨hx19_0, hf19_0⟩ := Kd.R_celln 0 HO_6.out (0 : Int) (of_eq_true p19) (of_eq_true q19))))); refine store_event (t := 3) (p := 44) (v := ?vo_w21) (w1 := (wr.setCell ⟨go19, (0 : Int).toNat, none⟩ (.int .i64 (wrap64 ((rd x6_2 0) + 1))))) ?hg ?ho ?hn ?hr ?_; (case ho => rfl); (case hg => rfl); (case hn => rfl); (case hr => first | (go_simp; done) | (go_simp; rfl)); intro w21 hw; have hg : wr.grownBy w21 (some go19) := (by rw [hw]; exact HP20.2); have hp_ : Kd.R (Kd.int .i64) 3 w21 w.heap.size (fun _ => True) (.slice (some ⟨go19, 0, none⟩) x6_2.length co10) y108 := (by rw [hw, Ny108.out]; exact HP20.1); clear HP20; have n0_ := Aside0.mk (hp_); have n1_ := Aside0.mk ((by rw [hw]; exact below_set (HB.out) GB19.out : Below w.heap.size w w21)); clear HO_6; clear HB; have HO_6 := n0_; have HB := n1_; clear n0_ n1_; clear hg hw hp_))
           go_loopg [9, 47] k2 (fun kq v9 v47 w' => ∃ (x6_3 : List Int) (x9_3 : Int) (x47_3 : Int), v9 = .int .i64 x9_3 ∧ v47 = .int .i64 x47_3 ∧ Aside0 (letter_Words.l2 kq a0 a1 x6_3 x34_2 x9_3 (a0.size : Int) x34_2 (a1.size : Int) x47_3 = some (r1, r2)) ∧ Aside0 (kq ≤ k2) ∧ Aside0 (Kd.R (Kd.int .i64) 3 w' w.heap.size (fun _ => True) (.slice (some ⟨go19, 0, none⟩) x6_2.length co10) x6_3) ∧ Aside0 (Below w.heap.size w w'))
           case atStart => exact ⟨(y108), (rd x6_2 0), (0), (by first | rfl | (simp; done) | (simp [*]; done)), (by first | rfl | (simp; done) | (simp [*]; done)), H', ⟨Nat.le_refl _⟩, ⟨by (try simp only [hl6_1]); (try simp only [hl6_2]); (with_reducible repeat (first | apply Kd.R_alloc | apply Kd.R_drewN | apply Kd.R_drew)); exact HO_6.out⟩, ⟨by repeat (first | (with_reducible first | exact HB.out | apply below_alloc | apply pw_below_drewN | apply below_drew1) | exact HB.out)⟩⟩
           case round =>
            clear H'
            try clear c1
            try clear p1
            try clear q1
            try clear hx1
            try clear qi1
            try clear p2
            try clear c4
            try clear c4b0
            try clear c6
            try clear c6b0
            try clear c6b1
            try clear p6
            try clear c7
            try clear c7b0
            try clear c7b1
            try clear p10
            try clear q10
            try clear hx10
            try clear qi10
            try clear c11
            try clear c11b0
            try clear c12
            try clear c12b0
            try clear c13
            try clear c13b0
            try clear p14
            try clear q14
            try clear hx14
            try clear hf14
            try clear c17
            try clear c17b0
            try clear c18
            try clear c18b0
            try clear c18b1
            try clear p19
            try clear q19
            try clear hx19
            try clear qi19
            try clear hf19
            try clear hx106_0
            try clear hx107_0
            try clear hx14_0
            try clear hx19_0
            try clear p1
            try clear p106
            try clear p107
            try clear p14
            try clear p19
            try clear p2
            try clear p6
            try clear q1
            try clear q106
            try clear q107
            try clear q14
            try clear q19
            obtain ⟨x6_3, x9_3, x47_3, rfl, rfl, HA, HK3, HO_6, HB⟩ := hrel
            have hl6_3 := (Kd.R_reads' HO_6.out).1
            rw [hl6_3] at HO_6
            (try simp only [hl6_3])
            cases gk with
            | zero => exact absurd HA.out (by simp [letter_Words.l2])
            | succ k3 =>
             have H := HA.out
             clear HA
             simp only [letter_Words.l2] at H
             by_cases c22 : x47_3 < (a1.size : Int)
             ·rw [if_pos c22] at H
              have c22b0 : decide (x47_3 < (a1.size : Int)) = true := decide_eq_true c22
              clear c22
              by_cases c23 : 0 ≤ x34_2
              ·rw [if_pos c23] at H
               have c23b0 : decide (0 ≤ x34_2) = true := decide_eq_true c23
               clear c23
               by_cases c24 : x34_2 < (a0.size : Int)
               ·rw [if_pos c24] at H
                have c24b0 : decide (x34_2 < (a0.size : Int)) = true := decide_eq_true c24
                clear c24
                by_cases c26 : 0 ≤ x47_3
                ·rw [if_pos c26] at H
                 have c26b0 : decide (0 ≤ x47_3) = true := decide_eq_true c26
                 clear c26
                 by_cases c27 : x47_3 < (a1.size : Int)
                 ·rw [if_pos c27] at H
                  have c27b0 : decide (x47_3 < (a1.size : Int)) = true := decide_eq_true c27
                  clear c27
                  by_cases c29 : (bt a0 x34_2) = (bt a1 x47_3)
                  ·rw [if_pos c29] at H
                   have c29b0 : ((bt a0 x34_2) == (bt a1 x47_3)) = true := beq_iff_eq.mpr c29
                   have c29b1 : ((bt a0 x34_2) != (bt a1 x47_3)) = false := bne_eq_false_iff_eq.mpr c29
                   clear c29
                   obtain ⟨ji30, hji30⟩ : ∃ j_ : Int, (wrap64 (x47_3 + 1)) = j_ := ⟨_, rfl⟩
                   replace H : (if 0 ≤ (ji30) then (if (ji30) < (x6_3.length : Int) then (if x47_3 < (x6_3.length : Int) then (letter_Words.l2 k3 a0 a1 (x6_3.set ((ji30) : Int).toNat (mn (mn x9_3 (wrap64 ((rd x6_3 x47_3) + 1))) (wrap64 ((rd x6_3 (ji30)) + 1)))) x34_2 (rd x6_3 (ji30)) (a0.size : Int) x34_2 (a1.size : Int) ji30) else (none)) else (none)) else (none)) = some (r1, r2) := by first | (rw [hji30] at H; exact H) | (simp only [hji30] at H ⊢; exact H)
                   have hji30w : (IntKind.i64.wrap (x47_3 + 1)) = ji30 := (i64_w _).trans hji30
                   by_cases c31 : 0 ≤ (ji30)
                   ·rw [if_pos c31] at H
                    have c31b0 : decide (0 ≤ (ji30)) = true := decide_eq_true c31
                    clear c31
                    by_cases c32 : (ji30) < (x6_3.length : Int)
                    ·rw [if_pos c32] at H
                     have c32b0 : decide ((ji30) < (x6_3.length : Int)) = true := decide_eq_true c32
                     (try (have c32b0_hl6_1 := c32b0; simp only [hl6_1] at c32b0_hl6_1))
                     (try (have c32b0_hl6_2 := c32b0; simp only [hl6_2] at c32b0_hl6_2))
                     (try (have c32b0_hl6_3 := c32b0; simp only [hl6_3] at c32b0_hl6_3))
                     clear c32
                     by_cases c33 : x47_3 < (x6_3.length : Int)
                     ·rw [if_pos c33] at H
                      have c33b0 : decide (x47_3 < (x6_3.length : Int)) = true := decide_eq_true c33
                      (try (have c33b0_hl6_1 := c33b0; simp only [hl6_1] at c33b0_hl6_1))
                      (try (have c33b0_hl6_2 := c33b0; simp only [hl6_2] at c33b0_hl6_2))
                      (try (have c33b0_hl6_3 := c33b0; simp only [hl6_3] at c33b0_hl6_3))
                      clear c33
                      obtain ⟨ji34, hji34⟩ : ∃ j_ : Int, (mn x9_3 (wrap64 ((rd x6_3 x47_3) + 1))) = j_ := ⟨_, rfl⟩
                      replace H : (letter_Words.l2 k3 a0 a1 (x6_3.set ((ji30) : Int).toNat (mn (ji34) (wrap64 ((rd x6_3 (ji30)) + 1)))) x34_2 (rd x6_3 (ji30)) (a0.size : Int) x34_2 (a1.size : Int) ji30) = some (r1, r2) := by first | (rw [hji34] at H; exact H) | (simp only [hji34] at H ⊢; exact H)
                      have hji34_ : (if (wrap64 ((rd x6_3 x47_3) + 1)) < x9_3 then (wrap64 ((rd x6_3 x47_3) + 1)) else x9_3) = ji34 := hji34
                      obtain ⟨ji35, hji35⟩ : ∃ j_ : Int, (mn (ji34) (wrap64 ((rd x6_3 (ji30)) + 1))) = j_ := ⟨_, rfl⟩
                      replace H : (letter_Words.l2 k3 a0 a1 (x6_3.set ((ji30) : Int).toNat (ji35)) x34_2 (rd x6_3 (ji30)) (a0.size : Int) x34_2 (a1.size : Int) ji30) = some (r1, r2) := by first | (rw [hji35] at H; exact H) | (simp only [hji35] at H ⊢; exact H)
                      have hji35_ : (if (wrap64 ((rd x6_3 (ji30)) + 1)) < (ji34) then (wrap64 ((rd x6_3 (ji30)) + 1)) else (ji34)) = ji35 := hji35
                      obtain ⟨y111, hy111⟩ : ∃ y_ : List Int, y_ = (x6_3.set ((ji30) : Int).toNat (ji35)) := ⟨_, rfl⟩
                      replace H : (letter_Words.l2 k3 a0 a1 y111 x34_2 (rd x6_3 (ji30)) (a0.size : Int) x34_2 (a1.size : Int) ji30) = some (r1, r2) := by first | (rw [hy111]; with_reducible exact H) | (have H2_ := (Option.bind_some _ _).symm.trans H; rw [hy111]; with_reducible exact H2_) | (have H2_ := (Option.bind_some _ _).symm.trans H; with_reducible exact H2_) | with_reducible exact H | (rw [hy111]; exact H) | exact H
                      have Ny111 := Aside0.mk hy111
                      clear hy111
                      have H' := Aside0.mk H
                      clear H
                      have p25 : 0 ≤ (x34_2 : Int) := of_decide_eq_true (by first | (with_reducible assumption) | assumption)
                      have q25 : x34_2 < (a0.size : Int) := of_decide_eq_true (by first | (with_reducible assumption) | assumption)
                      have hx25 := bt_at a0 x34_2
                      replace p25 := eq_true p25
                      replace q25 := eq_true q25
                      have p28 : 0 ≤ (x47_3 : Int) := of_decide_eq_true (by first | (with_reducible assumption) | assumption)
                      have q28 : x47_3 < (a1.size : Int) := of_decide_eq_true (by first | (with_reducible assumption) | assumption)
                      have hx28 := bt_at a1 x47_3
                      replace p28 := eq_true p28
                      replace q28 := eq_true q28
                      have p109 : 0 ≤ ((ji30) : Int) := of_decide_eq_true (by first | (with_reducible assumption) | assumption)
                      have q109 : (ji30) < (x6_3.length : Int) := of_decide_eq_true (by first | (with_reducible assumption) | assumption)
                      obtain ⟨ad109, e109, hx109_0⟩ := Kd.at_int (Kd.R_reads' HO_6.out).2.2 (ji30) p109 q109
                      obtain rfl : (⟨go19, 0, none⟩ : Addr) = ad109 := (by injection e109)
                      (first | simp only [add_plain] at hx109_0 | simp only [add_at] at hx109_0 | simp only [Addr.add, Nat.zero_add] at hx109_0 | skip)
                      replace p109 := eq_true p109
                      replace q109 := eq_true q109
                      have p110 : 0 ≤ (x47_3 : Int) := of_decide_eq_true (by first | (with_reducible assumption) | assumption)
                      have q110 : x47_3 < (x6_3.length : Int) := of_decide_eq_true (by first | (with_reducible assumption) | assumption)
                      obtain ⟨ad110, e110, hx110_0⟩ := Kd.at_int (Kd.R_reads' HO_6.out).2.2 x47_3 p110 q110
                      obtain rfl : (⟨go19, 0, none⟩ : Addr) = ad110 := (by injection e110)
                      (first | simp only [add_plain] at hx110_0 | simp only [add_at] at hx110_0 | simp only [Addr.add, Nat.zero_add] at hx110_0 | skip)
                      replace p110 := eq_true p110
                      replace q110 := eq_true q110
                      have p36 : 0 ≤ ((ji30) : Int) := of_decide_eq_true (by first | (with_reducible assumption) | assumption)
                      have q36 : ((ji30) : Int) < ((x6_3.length : Int) : Int) := of_decide_eq_true (by first | (with_reducible assumption) | assumption)
                      obtain ⟨hx36_0, hf36_0⟩ := Kd.R_celln 0 HO_6.out ((ji30) : Int) p36 q36
                      replace p36 := eq_true p36
                      replace q36 := eq_true q36
                      have HP37 := Kd.R_putg HO_6.out ((ji30) : Int) ji35
                      go_wp2_with (first | ((with_reducible refine gate_store (t := 3) (p := 77) rfl ?_); (try (rw [drewN_self wr]; generalize hq_ : World.drewN wr _ = wr; have n0_ := Aside0.mk (Kd.R_at hq_ HO_6.out); have n1_ := Aside0.mk (below_at hq_ HB.out); clear hq_ HO_6 HB; have HO_6 := n0_; have HB := n1_; clear n0_ n1_; (try (have HP37 := Kd.R_putg HO_6.out ((ji30) : Int) ji35)); (try (obtain ⟨hx36_0, hf36_0⟩ := Kd.R_celln 0 HO_6.out ((ji30) : Int) (of_eq_true p36) (of_eq_true q36))))); refine store_event (t := 3) (p := 77) (v := ?vo_w38) (w1 := (wr.setCell ⟨go19, ((ji30) : Int).toNat, none⟩ (.int .i64 ji35))) ?hg ?ho ?hn ?hr ?_; (case ho => rfl); (case hg => rfl); (case hn => rfl); (case hr => first | (go_simp; done) | (go_simp; rfl)); intro w38 hw; have hg : wr.grownBy w38 (some go19) := (by rw [hw]; exact HP37.2); have hp_ : Kd.R (Kd.int .i64) 3 w38 w.heap.size (fun _ => True) (.slice (some ⟨go19, 0, none⟩) x6_3.length co10) y111 := (by rw [hw, Ny111.out]; exact HP37.1); clear HP37; have n0_ := Aside0.mk (hp_); have n1_ := Aside0.mk ((by rw [hw]; exact below_set (HB.out) GB19.out : Below w.heap.size w w38)); clear HO_6; clear HB; have HO_6 := n0_; have HB := n1_; clear n0_ n1_; clear hg hw hp_))
                      repeat (go_quiet (first | ((with_reducible refine gate_store (t := 3) (p := 77) rfl ?_); (try (rw [drewN_self wr]; generalize hq_ : World.drewN wr _ = wr; have n0_ := Aside0.mk (Kd.R_at hq_ HO_6.out); have n1_ := Aside0.mk (below_at hq_ HB.out); clear hq_ HO_6 HB; have HO_6 := n0_; have HB := n1_; clear n0_ n1_; (try (have HP37 := Kd.R_putg HO_6.out ((ji30) : Int) ji35)); (try (obtain ⟨hx36_0, hf36_0⟩ := Kd.R_celln 0 HO_6.out ((ji30) : Int) (of_eq_true p36) (of_eq_true q36))))); refine store_event (t := 3) (p := 77) (v := ?vo_w38) (w1 := (wr.setCell ⟨go19, ((ji30) : Int).toNat, none⟩ (.int .i64 ji35))) ?hg ?ho ?hn ?hr ?_; (case ho => rfl); (case hg => rfl); (case hn => rfl); (case hr => first | (go_simp; done) | (go_simp; rfl)); intro w38 hw; have hg : wr.grownBy w38 (some go19) := (by rw [hw]; exact HP37.2); have hp_ : Kd.R (Kd.int .i64) 3 w38 w.heap.size (fun _ => True) (.slice (some ⟨go19, 0, none⟩) x6_3.length co10) y111 := (by rw [hw, Ny111.out]; exact HP37.1); clear HP37; have n0_ := Aside0.mk (hp_); have n1_ := Aside0.mk ((by rw [hw]; exact below_set (HB.out) GB19.out : Below w.heap.size w w38)); clear HO_6; clear HB; have HO_6 := n0_; have HB := n1_; clear n0_ n1_; clear hg hw hp_)); try go_wp2_with (first | ((with_reducible refine gate_store (t := 3) (p := 77) rfl ?_); (try (rw [drewN_self wr]; generalize hq_ : World.drewN wr _ = wr; have n0_ := Aside0.mk (Kd.R_at hq_ HO_6.out); have n1_ := Aside0.mk (below_at hq_ HB.out); clear hq_ HO_6 HB; have HO_6 := n0_; have HB := n1_; clear n0_ n1_; (try (have HP37 := Kd.R_putg HO_6.out ((ji30) : Int) ji35)); (try (obtain ⟨hx36_0, hf36_0⟩ := Kd.R_celln 0 HO_6.out ((ji30) : Int) (of_eq_true p36) (of_eq_true q36))))); refine store_event (t := 3) (p := 77) (v := ?vo_w38) (w1 := (wr.setCell ⟨go19, ((ji30) : Int).toNat, none⟩ (.int .i64 ji35))) ?hg ?ho ?hn ?hr ?_; (case ho => rfl); (case hg => rfl); (case hn => rfl); (case hr => first | (go_simp; done) | (go_simp; rfl)); intro w38 hw; have hg : wr.grownBy w38 (some go19) := (by rw [hw]; exact HP37.2); have hp_ : Kd.R (Kd.int .i64) 3 w38 w.heap.size (fun _ => True) (.slice (some ⟨go19, 0, none⟩) x6_3.length co10) y111 := (by rw [hw, Ny111.out]; exact HP37.1); clear HP37; have n0_ := Aside0.mk (hp_); have n1_ := Aside0.mk ((by rw [hw]; exact below_set (HB.out) GB19.out : Below w.heap.size w w38)); clear HO_6; clear HB; have HO_6 := n0_; have HB := n1_; clear n0_ n1_; clear hg hw hp_)))
                      (try simp only [← hl6_3])
                      go_roundg k3
                      case measure => have := HK1.out; have := HK2.out; have := HK3.out; omega
                      case rel => exact ⟨(y111), (rd x6_3 (ji30)), (ji30), (by first | rfl | (simp; done) | (simp only [← hji30] <;> (first | rfl | simp)) | (simp [*]; done)), (by first | rfl | (simp; done) | (simp only [← hji30] <;> (first | rfl | simp)) | (simp [*]; done)), H', ⟨by have := HK1.out; have := HK2.out; have := HK3.out; omega⟩, ⟨by (try simp only [hl6_1]); (try simp only [hl6_2]); (try simp only [hl6_3]); (with_reducible repeat (first | apply Kd.R_alloc | apply Kd.R_drewN | apply Kd.R_drew)); exact HO_6.out⟩, ⟨by repeat (first | (with_reducible first | exact HB.out | apply below_alloc | apply pw_below_drewN | apply below_drew1) | exact HB.out)⟩⟩
                     ·rw [if_neg c33] at H
                      exact absurd H (by simp)
                    ·rw [if_neg c32] at H
                     exact absurd H (by simp)
                   ·rw [if_neg c31] at H
                    exact absurd H (by simp)
                  ·rw [if_neg c29] at H
                   have c29b0 : ((bt a0 x34_2) == (bt a1 x47_3)) = false := beq_eq_false_iff_ne.mpr c29
                   have c29b1 : ((bt a0 x34_2) != (bt a1 x47_3)) = true := bne_iff_ne.mpr c29
                   obtain ⟨ji39, hji39⟩ : ∃ j_ : Int, (wrap64 (x47_3 + 1)) = j_ := ⟨_, rfl⟩
                   replace H : (if 0 ≤ (ji39) then (if (ji39) < (x6_3.length : Int) then (if x47_3 < (x6_3.length : Int) then (letter_Words.l2 k3 a0 a1 (x6_3.set ((ji39) : Int).toNat (mn (mn (wrap64 (x9_3 + 1)) (wrap64 ((rd x6_3 x47_3) + 1))) (wrap64 ((rd x6_3 (ji39)) + 1)))) x34_2 (rd x6_3 (ji39)) (a0.size : Int) x34_2 (a1.size : Int) ji39) else (none)) else (none)) else (none)) = some (r1, r2) := by first | (rw [hji39] at H; exact H) | (simp only [hji39] at H ⊢; exact H)
                   have hji39w : (IntKind.i64.wrap (x47_3 + 1)) = ji39 := (i64_w _).trans hji39
                   by_cases c40 : 0 ≤ (ji39)
                   ·rw [if_pos c40] at H
                    have c40b0 : decide (0 ≤ (ji39)) = true := decide_eq_true c40
                    clear c40
                    by_cases c41 : (ji39) < (x6_3.length : Int)
                    ·rw [if_pos c41] at H
                     have c41b0 : decide ((ji39) < (x6_3.length : Int)) = true := decide_eq_true c41
                     (try (have c41b0_hl6_1 := c41b0; simp only [hl6_1] at c41b0_hl6_1))
                     (try (have c41b0_hl6_2 := c41b0; simp only [hl6_2] at c41b0_hl6_2))
                     (try (have c41b0_hl6_3 := c41b0; simp only [hl6_3] at c41b0_hl6_3))
                     clear c41
                     by_cases c42 : x47_3 < (x6_3.length : Int)
                     ·rw [if_pos c42] at H
                      have c42b0 : decide (x47_3 < (x6_3.length : Int)) = true := decide_eq_true c42
                      (try (have c42b0_hl6_1 := c42b0; simp only [hl6_1] at c42b0_hl6_1))
                      (try (have c42b0_hl6_2 := c42b0; simp only [hl6_2] at c42b0_hl6_2))
                      (try (have c42b0_hl6_3 := c42b0; simp only [hl6_3] at c42b0_hl6_3))
                      clear c42
                      obtain ⟨ji43, hji43⟩ : ∃ j_ : Int, (mn (wrap64 (x9_3 + 1)) (wrap64 ((rd x6_3 x47_3) + 1))) = j_ := ⟨_, rfl⟩
                      replace H : (letter_Words.l2 k3 a0 a1 (x6_3.set ((ji39) : Int).toNat (mn (ji43) (wrap64 ((rd x6_3 (ji39)) + 1)))) x34_2 (rd x6_3 (ji39)) (a0.size : Int) x34_2 (a1.size : Int) ji39) = some (r1, r2) := by first | (rw [hji43] at H; exact H) | (simp only [hji43] at H ⊢; exact H)
                      have hji43_ : (if (wrap64 ((rd x6_3 x47_3) + 1)) < (wrap64 (x9_3 + 1)) then (wrap64 ((rd x6_3 x47_3) + 1)) else (wrap64 (x9_3 + 1))) = ji43 := hji43
                      obtain ⟨ji44, hji44⟩ : ∃ j_ : Int, (mn (ji43) (wrap64 ((rd x6_3 (ji39)) + 1))) = j_ := ⟨_, rfl⟩
                      replace H : (letter_Words.l2 k3 a0 a1 (x6_3.set ((ji39) : Int).toNat (ji44)) x34_2 (rd x6_3 (ji39)) (a0.size : Int) x34_2 (a1.size : Int) ji39) = some (r1, r2) := by first | (rw [hji44] at H; exact H) | (simp only [hji44] at H ⊢; exact H)
                      have hji44_ : (if (wrap64 ((rd x6_3 (ji39)) + 1)) < (ji43) then (wrap64 ((rd x6_3 (ji39)) + 1)) else (ji43)) = ji44 := hji44
                      obtain ⟨y114, hy114⟩ : ∃ y_ : List Int, y_ = (x6_3.set ((ji39) : Int).toNat (ji44)) := ⟨_, rfl⟩
                      replace H : (letter_Words.l2 k3 a0 a1 y114 x34_2 (rd x6_3 (ji39)) (a0.size : Int) x34_2 (a1.size : Int) ji39) = some (r1, r2) := by first | (rw [hy114]; with_reducible exact H) | (have H2_ := (Option.bind_some _ _).symm.trans H; rw [hy114]; with_reducible exact H2_) | (have H2_ := (Option.bind_some _ _).symm.trans H; with_reducible exact H2_) | with_reducible exact H | (rw [hy114]; exact H) | exact H
                      have Ny114 := Aside0.mk hy114
                      clear hy114
                      have H' := Aside0.mk H
                      clear H
                      have p25 : 0 ≤ (x34_2 : Int) := of_decide_eq_true (by first | (with_reducible assumption) | assumption)
                      have q25 : x34_2 < (a0.size : Int) := of_decide_eq_true (by first | (with_reducible assumption) | assumption)
                      have hx25 := bt_at a0 x34_2
                      replace p25 := eq_true p25
                      replace q25 := eq_true q25
                      have p28 : 0 ≤ (x47_3 : Int) := of_decide_eq_true (by first | (with_reducible assumption) | assumption)
                      have q28 : x47_3 < (a1.size : Int) := of_decide_eq_true (by first | (with_reducible assumption) | assumption)
                      have hx28 := bt_at a1 x47_3
                      replace p28 := eq_true p28
                      replace q28 := eq_true q28
                      have p112 : 0 ≤ ((ji39) : Int) := of_decide_eq_true (by first | (with_reducible assumption) | assumption)
                      have q112 : (ji39) < (x6_3.length : Int) := of_decide_eq_true (by first | (with_reducible assumption) | assumption)
                      obtain ⟨ad112, e112, hx112_0⟩ := Kd.at_int (Kd.R_reads' HO_6.out).2.2 (ji39) p112 q112
                      obtain rfl : (⟨go19, 0, none⟩ : Addr) = ad112 := (by injection e112)
                      (first | simp only [add_plain] at hx112_0 | simp only [add_at] at hx112_0 | simp only [Addr.add, Nat.zero_add] at hx112_0 | skip)
                      replace p112 := eq_true p112
                      replace q112 := eq_true q112
                      have p113 : 0 ≤ (x47_3 : Int) := of_decide_eq_true (by first | (with_reducible assumption) | assumption)
                      have q113 : x47_3 < (x6_3.length : Int) := of_decide_eq_true (by first | (with_reducible assumption) | assumption)
                      obtain ⟨ad113, e113, hx113_0⟩ := Kd.at_int (Kd.R_reads' HO_6.out).2.2 x47_3 p113 q113
                      obtain rfl : (⟨go19, 0, none⟩ : Addr) = ad113 := (by injection e113)
                      (first | simp only [add_plain] at hx113_0 | simp only [add_at] at hx113_0 | simp only [Addr.add, Nat.zero_add] at hx113_0 | skip)
                      replace p113 := eq_true p113
                      replace q113 := eq_true q113
                      have p45 : 0 ≤ ((ji39) : Int) := of_decide_eq_true (by first | (with_reducible assumption) | assumption)
                      have q45 : ((ji39) : Int) < ((x6_3.length : Int) : Int) := of_decide_eq_true (by first | (with_reducible assumption) | assumption)
                      obtain ⟨hx45_0, hf45_0⟩ := Kd.R_celln 0 HO_6.out ((ji39) : Int) p45 q45
                      replace p45 := eq_true p45
                      replace q45 := eq_true q45
                      have HP46 := Kd.R_putg HO_6.out ((ji39) : Int) ji44
                      go_wp2_with (first | ((with_reducible refine gate_store (t := 3) (p := 77) rfl ?_); (try (rw [drewN_self wr]; generalize hq_ : World.drewN wr _ = wr; have n0_ := Aside0.mk (Kd.R_at hq_ HO_6.out); have n1_ := Aside0.mk (below_at hq_ HB.out); clear hq_ HO_6 HB; have HO_6 := n0_; have HB := n1_; clear n0_ n1_; (try (have HP46 := Kd.R_putg HO_6.out ((ji39) : Int) ji44)); (try (obtain ⟨hx45_0, hf45_0⟩ := Kd.R_celln 0 HO_6.out ((ji39) : Int) (of_eq_true p45) (of_eq_true q45))))); refine store_event (t := 3) (p := 77) (v := ?vo_w47) (w1 := (wr.setCell ⟨go19, ((ji39) : Int).toNat, none⟩ (.int .i64 ji44))) ?hg ?ho ?hn ?hr ?_; (case ho => rfl); (case hg => rfl); (case hn => rfl); (case hr => first | (go_simp; done) | (go_simp; rfl)); intro w47 hw; have hg : wr.grownBy w47 (some go19) := (by rw [hw]; exact HP46.2); have hp_ : Kd.R (Kd.int .i64) 3 w47 w.heap.size (fun _ => True) (.slice (some ⟨go19, 0, none⟩) x6_3.length co10) y114 := (by rw [hw, Ny114.out]; exact HP46.1); clear HP46; have n0_ := Aside0.mk (hp_); have n1_ := Aside0.mk ((by rw [hw]; exact below_set (HB.out) GB19.out : Below w.heap.size w w47)); clear HO_6; clear HB; have HO_6 := n0_; have HB := n1_; clear n0_ n1_; clear hg hw hp_))
                      repeat (go_quiet (first | ((with_reducible refine gate_store (t := 3) (p := 77) rfl ?_); (try (rw [drewN_self wr]; generalize hq_ : World.drewN wr _ = wr; have n0_ := Aside0.mk (Kd.R_at hq_ HO_6.out); have n1_ := Aside0.mk (below_at hq_ HB.out); clear hq_ HO_6 HB; have HO_6 := n0_; have HB := n1_; clear n0_ n1_; (try (have HP46 := Kd.R_putg HO_6.out ((ji39) : Int) ji44)); (try (obtain ⟨hx45_0, hf45_0⟩ := Kd.R_celln 0 HO_6.out ((ji39) : Int) (of_eq_true p45) (of_eq_true q45))))); refine store_event (t := 3) (p := 77) (v := ?vo_w47) (w1 := (wr.setCell ⟨go19, ((ji39) : Int).toNat, none⟩ (.int .i64 ji44))) ?hg ?ho ?hn ?hr ?_; (case ho => rfl); (case hg => rfl); (case hn => rfl); (case hr => first | (go_simp; done) | (go_simp; rfl)); intro w47 hw; have hg : wr.grownBy w47 (some go19) := (by rw [hw]; exact HP46.2); have hp_ : Kd.R (Kd.int .i64) 3 w47 w.heap.size (fun _ => True) (.slice (some ⟨go19, 0, none⟩) x6_3.length co10) y114 := (by rw [hw, Ny114.out]; exact HP46.1); clear HP46; have n0_ := Aside0.mk (hp_); have n1_ := Aside0.mk ((by rw [hw]; exact below_set (HB.out) GB19.out : Below w.heap.size w w47)); clear HO_6; clear HB; have HO_6 := n0_; have HB := n1_; clear n0_ n1_; clear hg hw hp_)); try go_wp2_with (first | ((with_reducible refine gate_store (t := 3) (p := 77) rfl ?_); (try (rw [drewN_self wr]; generalize hq_ : World.drewN wr _ = wr; have n0_ := Aside0.mk (Kd.R_at hq_ HO_6.out); have n1_ := Aside0.mk (below_at hq_ HB.out); clear hq_ HO_6 HB; have HO_6 := n0_; have HB := n1_; clear n0_ n1_; (try (have HP46 := Kd.R_putg HO_6.out ((ji39) : Int) ji44)); (try (obtain ⟨hx45_0, hf45_0⟩ := Kd.R_celln 0 HO_6.out ((ji39) : Int) (of_eq_true p45) (of_eq_true q45))))); refine store_event (t := 3) (p := 77) (v := ?vo_w47) (w1 := (wr.setCell ⟨go19, ((ji39) : Int).toNat, none⟩ (.int .i64 ji44))) ?hg ?ho ?hn ?hr ?_; (case ho => rfl); (case hg => rfl); (case hn => rfl); (case hr => first | (go_simp; done) | (go_simp; rfl)); intro w47 hw; have hg : wr.grownBy w47 (some go19) := (by rw [hw]; exact HP46.2); have hp_ : Kd.R (Kd.int .i64) 3 w47 w.heap.size (fun _ => True) (.slice (some ⟨go19, 0, none⟩) x6_3.length co10) y114 := (by rw [hw, Ny114.out]; exact HP46.1); clear HP46; have n0_ := Aside0.mk (hp_); have n1_ := Aside0.mk ((by rw [hw]; exact below_set (HB.out) GB19.out : Below w.heap.size w w47)); clear HO_6; clear HB; have HO_6 := n0_; have HB := n1_; clear n0_ n1_; clear hg hw hp_)))
                      (try simp only [← hl6_3])
                      go_roundg k3
                      case measure => have := HK1.out; have := HK2.out; have := HK3.out; omega
                      case rel => exact ⟨(y114), (rd x6_3 (ji39)), (ji39), (by first | rfl | (simp; done) | (simp only [← hji39] <;> (first | rfl | simp)) | (simp [*]; done)), (by first | rfl | (simp; done) | (simp only [← hji39] <;> (first | rfl | simp)) | (simp [*]; done)), H', ⟨by have := HK1.out; have := HK2.out; have := HK3.out; omega⟩, ⟨by (try simp only [hl6_1]); (try simp only [hl6_2]); (try simp only [hl6_3]); (with_reducible repeat (first | apply Kd.R_alloc | apply Kd.R_drewN | apply Kd.R_drew)); exact HO_6.out⟩, ⟨by repeat (first | (with_reducible first | exact HB.out | apply below_alloc | apply pw_below_drewN | apply below_drew1) | exact HB.out)⟩⟩
                     ·rw [if_neg c42] at H
                      exact absurd H (by simp)
                    ·rw [if_neg c41] at H
                     exact absurd H (by simp)
                   ·rw [if_neg c40] at H
                    exact absurd H (by simp)
                 ·rw [if_neg c27] at H
                  exact absurd H (by simp)
                ·rw [if_neg c26] at H
                 exact absurd H (by simp)
               ·rw [if_neg c24] at H
                exact absurd H (by simp)
              ·rw [if_neg c23] at H
               exact absurd H (by simp)
             ·rw [if_neg c22] at H
              have c22b0 : decide (x47_3 < (a1.size : Int)) = false := decide_eq_false c22
              clear c22
              have H' := Aside0.mk H
              clear H
              go_wp2
              (try simp only [← hl6_2, ← hl6_3])
              go_roundg k3
              case measure => have := HK1.out; have := HK2.out; have := HK3.out; omega
              case rel => exact ⟨(x6_3), (wrap64 (x34_2 + 1)), (by first | rfl | (simp; done) | (simp [*]; done)), H', ⟨by have := HK1.out; have := HK2.out; have := HK3.out; omega⟩, ⟨by (try simp only [hl6_1]); (try simp only [hl6_2]); (try simp only [hl6_3]); (with_reducible repeat (first | apply Kd.R_alloc | apply Kd.R_drewN | apply Kd.R_drew)); exact HO_6.out⟩, ⟨by repeat (first | (with_reducible first | exact HB.out | apply below_alloc | apply pw_below_drewN | apply below_drew1) | exact HB.out)⟩⟩
          ·rw [if_neg c18] at H
           exact absurd H (by simp)
         ·rw [if_neg c17] at H
          have c17b0 : decide (x34_2 < (a0.size : Int)) = false := decide_eq_false c17
          clear c17
          by_cases c48 : 0 ≤ (a1.size : Int)
          ·rw [if_pos c48] at H
           have c48b0 : decide (0 ≤ (a1.size : Int)) = true := decide_eq_true c48
           have c48b1 : decide (0 ≤ a1.size) = true := decide_eq_true (by omega)
           clear c48
           by_cases c49 : (a1.size : Int) < (x6_2.length : Int)
           ·rw [if_pos c49] at H
            have c49b0 : decide ((a1.size : Int) < (x6_2.length : Int)) = true := decide_eq_true c49
            (try (have c49b0_hl6_1 := c49b0; simp only [hl6_1] at c49b0_hl6_1))
            (try (have c49b0_hl6_2 := c49b0; simp only [hl6_2] at c49b0_hl6_2))
            have c49b1 : decide (a1.size < x6_2.length) = true := decide_eq_true (Int.ofNat_lt.mp c49)
            (try (have c49b1_hl6_1 := c49b1; simp only [hl6_1] at c49b1_hl6_1))
            (try (have c49b1_hl6_2 := c49b1; simp only [hl6_2] at c49b1_hl6_2))
            clear c49
            simp only [Option.some.injEq, Prod.mk.injEq] at H
            obtain ⟨rfl, rfl⟩ := H
            have p105 : 0 ≤ ((a1.size : Int) : Int) := of_decide_eq_true (by first | (with_reducible assumption) | assumption)
            have q105 : (a1.size : Int) < (x6_2.length : Int) := of_decide_eq_true (by first | (with_reducible assumption) | assumption)
            obtain ⟨ad105, e105, hx105_0⟩ := Kd.at_int (Kd.R_reads' HO_6.out).2.2 (a1.size : Int) p105 q105
            (try (have hx105_0n := hx105_0; simp only [Int.toNat_natCast] at hx105_0n))
            cases e105
            replace p105 := eq_true p105
            replace q105 := eq_true q105
            go_wp2
            go_ret2
            exact ⟨by first | rfl | (simp [errW_none, errW_some] <;> rfl) | (simp only [← hji3, ← hji5]; first | rfl | (simp [errW_none, errW_some] <;> rfl)) | (simp [*, errW_none, errW_some] <;> rfl), by repeat (first | (with_reducible first | exact HB.out | apply below_alloc | apply pw_below_drewN | apply below_drew1) | exact HB.out)⟩
           ·rw [if_neg c49] at H
            exact absurd H (by simp)
          ·rw [if_neg c48] at H
           exact absurd H (by simp)
   ·rw [if_neg c7] at H
    exact absurd H (by simp)
  ·rw [if_neg c6] at H
   exact absurd H (by simp)

/-! ### incunablelaw30_Awake: function 6 -/
def incunablelaw30_Awake.f (k : Nat)  : Option (Bool) := (letter_Words.f k (⟨#[102, 111, 114, 109]⟩ : ByteArray) (⟨#[102, 114, 111, 109]⟩ : ByteArray)).bind fun bt115 => (if bt115.1 = 2 then (some (bt115.2 == 0)) else (some false))
theorem incunablelaw30_Awake.mono : ∀ k, LeO (incunablelaw30_Awake.f k ) (incunablelaw30_Awake.f (k + 1) ) := by
 intro  k
 unfold incunablelaw30_Awake.f
 repeat' first
   | (with_reducible exact letter_Words.mono _ _ _)
   | (with_reducible exact LeO.refl _)
   | (with_reducible exact LeO.none _)
   | (with_reducible refine LeO.ite ?_ ?_)
   | (with_reducible refine LeO.bind ?_ (fun _ => ?_))
   | exact letter_Words.mono _ _ _
   | exact LeO.none _
   | refine LeO.ite ?_ ?_
   | refine LeO.bind ?_ (fun _ => ?_)
set_option maxHeartbeats 8000000 in
set_option maxRecDepth 100000 in
theorem incunablelaw30_Awake.calls (k : Nat)  (r : Bool) (w : World) (h : incunablelaw30_Awake.f k  = some r) :
  Calls Try.prog 6 #[] w fun e w' => e = .returned (.bool r) ∧ Below w.heap.size w w' := by
 have HB := Aside0.mk (Below.refl w.heap.size w)
 have H : ((letter_Words.f k (⟨#[102, 111, 114, 109]⟩ : ByteArray) (⟨#[102, 114, 111, 109]⟩ : ByteArray)).bind fun bt115 => (if bt115.1 = 2 then (some (bt115.2 == 0)) else (some false))) = some r := h
 clear h
 replace H := Option.bind_eq_some_iff.mp H
 obtain ⟨⟨t115, t116⟩, A10, H⟩ := H
 replace H : (if t115 = 2 then (some (t116 == 0)) else (some false)) = some r := H
 have A1 := Aside0.mk A10
 clear A10
 by_cases c2 : t115 = 2
 ·rw [if_pos c2] at H
  have c2b0 : (t115 == 2) = true := beq_iff_eq.mpr c2
  have c2b1 : (t115 != 2) = false := bne_eq_false_iff_eq.mpr c2
  clear c2
  obtain rfl := Option.some.inj H
  go_enter Try.func6, Try.ntmps6
  go_wp2_with (first | ((with_reducible refine gate_callee (f := 7) rfl ?_); refine goesL_ (some 4) rfl rfl Try.func7 (by kernel_rfl) rfl #[.string (⟨#[102, 111, 114, 109]⟩ : ByteArray), .string (⟨#[102, 114, 111, 109]⟩ : ByteArray)] rfl (by (try simp only [List.map_toArray, List.map_cons, List.map_nil]); first | done | rfl | (simp only [List.length_drop, List.length_take]; rfl)) ?_; (with_reducible refine (letter_Words.calls k (⟨#[102, 111, 114, 109]⟩ : ByteArray) (⟨#[102, 114, 111, 109]⟩ : ByteArray) t115 t116 _ A1.out).mono ?_); rintro e w3 ⟨rfl, hb⟩; refine ⟨_, rfl, ?_⟩; have n0_ := Aside0.mk (below_step (by repeat (first | (with_reducible first | exact HB.out | apply below_alloc | apply pw_below_drewN | apply below_drew1) | exact HB.out)) hb); clear HB; have HB := n0_; clear n0_; (try clear hb); (try clear hb2); (try clear hk); (try clear hi)))
  go_ret
  exact ⟨by first | rfl | (simp [errW_none, errW_some] <;> rfl) | (simp [*, errW_none, errW_some] <;> rfl), by repeat (first | (with_reducible first | exact HB.out | apply below_alloc | apply pw_below_drewN | apply below_drew1) | exact HB.out)⟩
 ·rw [if_neg c2] at H
  have c2b0 : (t115 == 2) = false := beq_eq_false_iff_ne.mpr c2
  have c2b1 : (t115 != 2) = true := bne_iff_ne.mpr c2
  obtain rfl := Option.some.inj H
  go_enter Try.func6, Try.ntmps6
  go_wp2_with (first | ((with_reducible refine gate_callee (f := 7) rfl ?_); refine goesL_ (some 4) rfl rfl Try.func7 (by kernel_rfl) rfl #[.string (⟨#[102, 111, 114, 109]⟩ : ByteArray), .string (⟨#[102, 114, 111, 109]⟩ : ByteArray)] rfl (by (try simp only [List.map_toArray, List.map_cons, List.map_nil]); first | done | rfl | (simp only [List.length_drop, List.length_take]; rfl)) ?_; (with_reducible refine (letter_Words.calls k (⟨#[102, 111, 114, 109]⟩ : ByteArray) (⟨#[102, 114, 111, 109]⟩ : ByteArray) t115 t116 _ A1.out).mono ?_); rintro e w4 ⟨rfl, hb⟩; refine ⟨_, rfl, ?_⟩; have n0_ := Aside0.mk (below_step (by repeat (first | (with_reducible first | exact HB.out | apply below_alloc | apply pw_below_drewN | apply below_drew1) | exact HB.out)) hb); clear HB; have HB := n0_; clear n0_; (try clear hb); (try clear hb2); (try clear hk); (try clear hi)))
  go_ret
  exact ⟨by first | rfl | (simp [errW_none, errW_some] <;> rfl) | (simp [*, errW_none, errW_some] <;> rfl), by repeat (first | (with_reducible first | exact HB.out | apply below_alloc | apply pw_below_drewN | apply below_drew1) | exact HB.out)⟩

/-! ### incunablelaw30_large: function 11 -/
def incunablelaw30_large.l0 : Nat → List (S45) → Int → List (S45) → Int → Int → Option (Bool)
 | 0, _, _, _, _, _ => none
 | k + 1, x0, x3, x6, x7, x8 => if x8 < x7 then (if 0 ≤ x8 then (if x8 < (x6.length : Int) then (incunablelaw30_large.l0 k x0 (wrap64 (x3 + (((rd_T45 x6 x8).f0.f2).length : Int))) x6 x7 (wrap64 (x8 + 1))) else (none)) else (none)) else (if (x0.length : Int) > 300 then (some true) else (some (decide (x3 > 8000))))
def incunablelaw30_large.f (k : Nat) (l0 : List (S45)) : Option (Bool) := incunablelaw30_large.l0 k l0 0 l0 (l0.length : Int) 0
theorem incunablelaw30_large.mono_l : ∀ k, (∀ y0 y1 y2 y3 y4, LeO (incunablelaw30_large.l0 k y0 y1 y2 y3 y4) (incunablelaw30_large.l0 (k + 1) y0 y1 y2 y3 y4))
 | 0 => fun _ _ _ _ _ r h => by simp [incunablelaw30_large.l0] at h
 | k + 1 => by
  have ih0 := incunablelaw30_large.mono_l k
  ·intro y0 y1 y2 y3 y4
   unfold incunablelaw30_large.l0
   repeat' first
   | (with_reducible exact ih0 _ _ _ _ _)
   | (with_reducible exact LeO.refl _)
   | (with_reducible exact LeO.none _)
   | (with_reducible refine LeO.ite ?_ ?_)
   | (with_reducible refine LeO.bind ?_ (fun _ => ?_))
   | exact ih0 _ _ _ _ _
   | exact LeO.none _
   | refine LeO.ite ?_ ?_
   | refine LeO.bind ?_ (fun _ => ?_)
theorem incunablelaw30_large.mono : ∀ a0 k, LeO (incunablelaw30_large.f k a0) (incunablelaw30_large.f (k + 1) a0) := by
 intro a0 k
 have ih0 := incunablelaw30_large.mono_l k
 unfold incunablelaw30_large.f
 repeat' first
   | (with_reducible exact ih0 _ _ _ _ _)
   | (with_reducible exact LeO.refl _)
   | (with_reducible exact LeO.none _)
   | (with_reducible refine LeO.ite ?_ ?_)
   | (with_reducible refine LeO.bind ?_ (fun _ => ?_))
   | exact ih0 _ _ _ _ _
   | exact LeO.none _
   | refine LeO.ite ?_ ?_
   | refine LeO.bind ?_ (fun _ => ?_)
set_option maxHeartbeats 8000000 in
set_option maxRecDepth 100000 in
theorem incunablelaw30_large.calls (k : Nat) (A0 : Option Addr) (c0 : Nat) (l0 : List (S45)) (r : Bool) (w : World) (hr0 : Kd.C k45 w A0 l0.length l0) (hc0 : l0.length ≤ c0) (h : incunablelaw30_large.f k l0 = some r) :
  Calls Try.prog 11 #[.slice A0 l0.length c0] w fun e w' => e = .returned (.bool r) ∧ Below w.heap.size w w' := by
 have hu45 := Try.underlying45
 have HR0 := Aside0.mk hr0
 have HC0 := Aside0.mk hc0
 clear hr0 hc0
 have HB := Aside0.mk (Below.refl w.heap.size w)
 have H : (incunablelaw30_large.l0 k l0 0 l0 (l0.length : Int) 0) = some r := h
 clear h
 have H' := Aside0.mk H
 clear H
 go_enter Try.func11, Try.ntmps11
 go_wp2
 go_loopg [3, 8] k (fun kq v3 v8 w' => ∃ (x3_1 : Int) (x8_1 : Int), v3 = .int .i64 x3_1 ∧ v8 = .int .i64 x8_1 ∧ Aside0 (incunablelaw30_large.l0 kq l0 x3_1 l0 (l0.length : Int) x8_1 = some r) ∧ Aside0 (kq ≤ k) ∧ Aside0 (Below w.heap.size w w'))
 case atStart => exact ⟨(0), (0), (by first | rfl | (simp; done) | (simp [*]; done)), (by first | rfl | (simp; done) | (simp [*]; done)), H', ⟨Nat.le_refl _⟩, ⟨by repeat (first | (with_reducible first | exact HB.out | apply below_alloc | apply pw_below_drewN | apply below_drew1) | exact HB.out)⟩⟩
 case round =>
  clear H'
  try clear c1
  obtain ⟨x3_1, x8_1, rfl, rfl, HA, HK1, HB⟩ := hrel
  cases gk with
  | zero => exact absurd HA.out (by simp [incunablelaw30_large.l0])
  | succ k1 =>
   have H := HA.out
   clear HA
   simp only [incunablelaw30_large.l0] at H
   by_cases c2 : x8_1 < (l0.length : Int)
   ·rw [if_pos c2] at H
    have c2b0 : decide (x8_1 < (l0.length : Int)) = true := decide_eq_true c2
    clear c2
    by_cases c3 : 0 ≤ x8_1
    ·rw [if_pos c3] at H
     have c3b0 : decide (0 ≤ x8_1) = true := decide_eq_true c3
     clear c3
     by_cases c4 : x8_1 < (l0.length : Int)
     ·rw [if_pos c4] at H
      have c4b0 : decide (x8_1 < (l0.length : Int)) = true := decide_eq_true c4
      clear c4
      have H' := Aside0.mk H
      clear H
      have p117 : 0 ≤ (x8_1 : Int) := of_decide_eq_true (by first | (with_reducible assumption) | assumption)
      have q117 : x8_1 < (l0.length : Int) := of_decide_eq_true (by first | (with_reducible assumption) | assumption)
      obtain ⟨ad117, A117_2, c117_2, e117, hx117_0, hx117_1, hx117_2, hx117_3, hl117_2, hi117_2⟩ := at_T45 HR0.out x8_1 p117 q117
      cases e117
      replace hx117_0 := (HB.out.cell (World.block_lt_of_cell? w _ hx117_0)).trans hx117_0
      replace hx117_1 := (HB.out.cell (World.block_lt_of_cell? w _ hx117_1)).trans hx117_1
      replace hx117_2 := (HB.out.cell (World.block_lt_of_cell? w _ hx117_2)).trans hx117_2
      replace hx117_3 := (HB.out.cell (World.block_lt_of_cell? w _ hx117_3)).trans hx117_3
      have HR117_2 := Aside0.mk hi117_2
      have HC117_2 := Aside0.mk hl117_2
      clear hi117_2 hl117_2
      replace p117 := eq_true p117
      replace q117 := eq_true q117
      go_wp2_with (first | ((with_reducible refine gate_dst (N := 5) rfl ?_); refine box_event ?hg (N := 5) ?hd (cs := #[.int .i64 0, .int .i64 0, .slice none 0 0, .int .u8 0]) (t := 45) ?hr ?_; (case hd => rfl); (case hg => rfl); (case hr => first | (go_simp; done) | (go_simp; rfl)); intro gb118 hg w5 hbox hb; have n0_ := Aside0.mk (below_step (by repeat (first | (with_reducible first | exact HB.out | apply below_alloc | apply pw_below_drewN | apply below_drew1) | exact HB.out)) hb); have n1_ := Aside0.mk (hbox); have n2_ := Aside0.mk ((by rw [hg]; exact (below_size (by repeat (first | (with_reducible first | exact HB.out | apply below_alloc | apply pw_below_drewN | apply below_drew1) | exact HB.out))) : w.heap.size ≤ gb118)); have n3_ := Aside0.mk ((by rw [hg]; exact (below_size (by repeat (first | (with_reducible first | exact HB.out | apply below_alloc | apply pw_below_drewN | apply below_drew1) | exact HB.out))) : w.heap.size ≤ gb118)); clear HB; have HB := n0_; have BK118 := n1_; have GW118 := n2_; have GE118 := n3_; clear n0_ n1_ n2_ n3_; clear hb hbox hg; have hcz6_0 : w5.cell? ⟨gb118, 0, none⟩ = some (.int .i64 0) := (blk_cell BK118.out 0).trans rfl; have hcz6_1 : w5.cell? ⟨gb118, 1, none⟩ = some (.int .i64 0) := (blk_cell BK118.out 1).trans rfl; have hcz6_2 : w5.cell? ⟨gb118, 2, none⟩ = some (.slice none 0 0) := (blk_cell BK118.out 2).trans rfl; have hcz6_3 : w5.cell? ⟨gb118, 3, none⟩ = some (.int .u8 0) := (blk_cell BK118.out 3).trans rfl; have hfz6_0 := blk_frozen BK118.out 0; have hfz6_1 := blk_frozen BK118.out 1; have hfz6_2 := blk_frozen BK118.out 2; have hfz6_3 := blk_frozen BK118.out 3))
      go_roundg k1
      case measure => have := HK1.out; omega
      case rel => exact ⟨(wrap64 (x3_1 + (((rd_T45 l0 x8_1).f0.f2).length : Int))), (wrap64 (x8_1 + 1)), (by first | rfl | (simp; done) | (simp [*]; done)), (by first | rfl | (simp; done) | (simp [*]; done)), H', ⟨by have := HK1.out; omega⟩, ⟨by repeat (first | (with_reducible first | exact HB.out | apply below_alloc | apply pw_below_drewN | apply below_drew1 | refine below_set ?_ GE118.out) | exact HB.out)⟩⟩
     ·rw [if_neg c4] at H
      exact absurd H (by simp)
    ·rw [if_neg c3] at H
     exact absurd H (by simp)
   ·rw [if_neg c2] at H
    have c2b0 : decide (x8_1 < (l0.length : Int)) = false := decide_eq_false c2
    clear c2
    by_cases c7 : (l0.length : Int) > 300
    ·rw [if_pos c7] at H
     have c7b0 : decide (300 < (l0.length : Int)) = true := decide_eq_true c7
     have c7b1 : decide (300 < l0.length) = true := decide_eq_true (by omega)
     clear c7
     obtain rfl := Option.some.inj H
     go_wp2
     go_ret
     exact ⟨by first | rfl | (simp [errW_none, errW_some] <;> rfl) | (simp [*, errW_none, errW_some] <;> rfl), by repeat (first | (with_reducible first | exact HB.out | apply below_alloc | apply pw_below_drewN | apply below_drew1) | exact HB.out)⟩
    ·rw [if_neg c7] at H
     have c7b0 : decide (300 < (l0.length : Int)) = false := decide_eq_false c7
     have c7b1 : decide (300 < l0.length) = false := decide_eq_false (by omega)
     clear c7
     obtain rfl := Option.some.inj H
     go_wp2
     go_ret
     exact ⟨by first | rfl | (simp [errW_none, errW_some] <;> rfl) | (simp [*, errW_none, errW_some] <;> rfl), by repeat (first | (with_reducible first | exact HB.out | apply below_alloc | apply pw_below_drewN | apply below_drew1) | exact HB.out)⟩

/-! ### bitmap_fits: function 30 -/
def bitmap_fits.f (a0 : Int) (a1 : Int) : Option (Bool) := if a0 ≥ 0 then (if a1 ≥ 0 then (if a0 ≤ 200 then (if a1 ≤ 200 then (some (decide ((wrap64 (a0 * a1)) ≤ 8192))) else (some false)) else (some false)) else (some false)) else (some false)
set_option maxHeartbeats 8000000 in
set_option maxRecDepth 100000 in
theorem bitmap_fits.calls (a0 : Int) (a1 : Int) (r : Bool) (w : World) (h : bitmap_fits.f a0 a1 = some r) :
  Calls Try.prog 30 #[.int .i64 a0, .int .i64 a1] w fun e w' => e = .returned (.bool r) ∧ Drawn0 w w' := by
 have H : (if a0 ≥ 0 then (if a1 ≥ 0 then (if a0 ≤ 200 then (if a1 ≤ 200 then (some (decide ((wrap64 (a0 * a1)) ≤ 8192))) else (some false)) else (some false)) else (some false)) else (some false)) = some r := h
 clear h
 by_cases c3 : a0 ≥ 0
 ·rw [if_pos c3] at H
  have c3b0 : decide (0 ≤ a0) = true := decide_eq_true c3
  clear c3
  by_cases c4 : a1 ≥ 0
  ·rw [if_pos c4] at H
   have c4b0 : decide (0 ≤ a1) = true := decide_eq_true c4
   clear c4
   by_cases c5 : a0 ≤ 200
   ·rw [if_pos c5] at H
    have c5b0 : decide (a0 ≤ 200) = true := decide_eq_true c5
    clear c5
    by_cases c6 : a1 ≤ 200
    ·rw [if_pos c6] at H
     have c6b0 : decide (a1 ≤ 200) = true := decide_eq_true c6
     clear c6
     obtain rfl := Option.some.inj H
     go_enter Try.func30, Try.ntmps30
     go_wp2
     go_ret
     exact ⟨by first | rfl | (simp; done) | (simp [*]; done), by repeat (first | exact Drawn0.refl _ | apply Drawn0.step)⟩
    ·rw [if_neg c6] at H
     have c6b0 : decide (a1 ≤ 200) = false := decide_eq_false c6
     clear c6
     obtain rfl := Option.some.inj H
     go_enter Try.func30, Try.ntmps30
     go_wp2
     go_ret
     exact ⟨by first | rfl | (simp; done) | (simp [*]; done), by repeat (first | exact Drawn0.refl _ | apply Drawn0.step)⟩
   ·rw [if_neg c5] at H
    have c5b0 : decide (a0 ≤ 200) = false := decide_eq_false c5
    clear c5
    obtain rfl := Option.some.inj H
    go_enter Try.func30, Try.ntmps30
    go_wp2
    go_ret
    exact ⟨by first | rfl | (simp; done) | (simp [*]; done), by repeat (first | exact Drawn0.refl _ | apply Drawn0.step)⟩
  ·rw [if_neg c4] at H
   have c4b0 : decide (0 ≤ a1) = false := decide_eq_false c4
   clear c4
   obtain rfl := Option.some.inj H
   go_enter Try.func30, Try.ntmps30
   go_wp2
   go_ret
   exact ⟨by first | rfl | (simp; done) | (simp [*]; done), by repeat (first | exact Drawn0.refl _ | apply Drawn0.step)⟩
 ·rw [if_neg c3] at H
  have c3b0 : decide (0 ≤ a0) = false := decide_eq_false c3
  clear c3
  obtain rfl := Option.some.inj H
  go_enter Try.func30, Try.ntmps30
  go_wp2
  go_ret
  exact ⟨by first | rfl | (simp; done) | (simp [*]; done), by repeat (first | exact Drawn0.refl _ | apply Drawn0.step)⟩

end Go.Proofs.Ytmggeebpbacoiaa.PLetterOnes
