-- Written by a program of this session (wip/tools/myprint.py) over the kit's print. Not trusted: Lean checks it.
import Derived.Test.YtaflekobfbgedaaPShapePiecesx0
import Derived.Test.YtaflekobfbgedaaPShapePiecesx10
import Derived.Test.YtaflekobfbgedaaPShapePiecesx11
import Derived.Test.YtaflekobfbgedaaPShapePiecesx12
namespace Go.Proofs.Ytaflekobfbgedaa.PShapePieces
open Go.RowKit Go.Proofs.YtaflekobfbgedaaW.PrintWords Go.Proofs.YtaflekobfbgedaaW.PrintLast Go.Proofs.YtaflekobfbgedaaW.PrintMore
attribute [local go_sem] max2_int min2_int max_two min_two max_three min_three max_four min_four   -- for this text's walks alone
set_option linter.unusedVariables false
set_option linter.unusedSimpArgs false

/-! ### incunableref15_Marks: function 52 -/
def incunableref15_Marks.l0 : Nat → List Int → Int → Int → Int → Int → List Int → Option (List Int × Int)
 | 0, _, _, _, _, _, _ => none
 | k + 1, x4, x5, x6, x371000, x371001, x371002 => if x6 < (x371002.length : Int) then (if 0 ≤ x6 then (if (rd x371002 x6) = 1 then (if x6 < (x4.length : Int) then (if (rd x4 x6) = 0 then ((incunableref15_spread.f k x371000 x371001 x371002 x4 x6 (wrap64 (x5 + 1)) 1 true).bind fun bt376 => (incunableref15_Marks.l0 k bt376.2 (wrap64 (x5 + 1)) (wrap64 (x6 + 1)) x371000 x371001 x371002)) else (incunableref15_Marks.l0 k x4 x5 (wrap64 (x6 + 1)) x371000 x371001 x371002)) else (none)) else (incunableref15_Marks.l0 k x4 x5 (wrap64 (x6 + 1)) x371000 x371001 x371002)) else (none)) else (some (x4, x5))
def incunableref15_Marks.f (k : Nat) (a0_0 : Int) (a0_1 : Int) (l0_2 : List Int) : Option (List Int × Int) := if 0 ≤ (l0_2.length : Int) then (if ((l0_2.length : Int) : Int).toNat ≤ 35184372088832 then (incunableref15_Marks.l0 k (List.replicate ((l0_2.length : Int) : Int).toNat 0) 0 0 a0_0 a0_1 l0_2) else (none)) else (none)
theorem incunableref15_Marks.mono_l : ∀ k, (∀ y0 y1 y2 y3 y4 y5, LeO (incunableref15_Marks.l0 k y0 y1 y2 y3 y4 y5) (incunableref15_Marks.l0 (k + 1) y0 y1 y2 y3 y4 y5))
 | 0 => fun _ _ _ _ _ _ r h => by simp [incunableref15_Marks.l0] at h
 | k + 1 => by
  have ih0 := incunableref15_Marks.mono_l k
  ·intro y0 y1 y2 y3 y4 y5
   unfold incunableref15_Marks.l0
   repeat' first
   | (with_reducible exact ih0 _ _ _ _ _ _)
   | (with_reducible exact incunableref15_spread.mono _ _ _ _ _ _ _ _ _)
   | (with_reducible first | exact LeO.refl _ | exact LeO.none _ | refine LeO.ite ?_ ?_ | refine LeO.bind ?_ (fun _ => ?_))
   | exact ih0 _ _ _ _ _ _
   | exact incunableref15_spread.mono _ _ _ _ _ _ _ _ _
   | exact LeO.none _ | refine LeO.ite ?_ ?_ | refine LeO.bind ?_ (fun _ => ?_)
theorem incunableref15_Marks.mono : ∀ a0 a1 a2 k, LeO (incunableref15_Marks.f k a0 a1 a2) (incunableref15_Marks.f (k + 1) a0 a1 a2) := by
 intro a0 a1 a2 k
 have ih0 := incunableref15_Marks.mono_l k
 unfold incunableref15_Marks.f
 repeat' first
   | (with_reducible exact ih0 _ _ _ _ _ _)
   | (with_reducible exact incunableref15_spread.mono _ _ _ _ _ _ _ _ _)
   | (with_reducible first | exact LeO.refl _ | exact LeO.none _ | refine LeO.ite ?_ ?_ | refine LeO.bind ?_ (fun _ => ?_))
   | exact ih0 _ _ _ _ _ _
   | exact incunableref15_spread.mono _ _ _ _ _ _ _ _ _
   | exact LeO.none _ | refine LeO.ite ?_ ?_ | refine LeO.bind ?_ (fun _ => ?_)
set_option maxHeartbeats 8000000 in
set_option maxRecDepth 100000 in
theorem incunableref15_Marks.calls (k : Nat) (a0_0 : Int) (a0_1 : Int) (A0_2 : Option Addr) (c0_2 : Nat) (l0_2 : List Int) (r1 : List Int) (r2 : Int) (w : World) (hr0_2 : Kd.C (Kd.int .u8) w A0_2 l0_2.length l0_2) (hc0_2 : l0_2.length ≤ c0_2) (h : incunableref15_Marks.f k a0_0 a0_1 l0_2 = some (r1, r2)) :
  Calls Try.prog 52 #[.agg #[.int .i64 a0_0, .int .i64 a0_1, .slice A0_2 l0_2.length c0_2]] w fun e w' => ∃ v0_ : Value, e = .returned (.tuple #[v0_, .int .i64 r2]) ∧ Kd.R (Kd.int .i64) 3 w' w.heap.size (fun _ => True) v0_ r1 ∧ Below w.heap.size w w' := by
 have hu24 := Try.underlying24
 have HR0_2 := Aside0.mk hr0_2
 have HC0_2 := Aside0.mk hc0_2
 clear hr0_2 hc0_2
 have HB := Aside0.mk (Below.refl w.heap.size w)
 have H : (if 0 ≤ (l0_2.length : Int) then (if ((l0_2.length : Int) : Int).toNat ≤ 35184372088832 then (incunableref15_Marks.l0 k (List.replicate ((l0_2.length : Int) : Int).toNat 0) 0 0 a0_0 a0_1 l0_2) else (none)) else (none)) = some (r1, r2) := h
 clear h
 by_cases c2 : 0 ≤ (l0_2.length : Int)
 ·rw [if_pos c2] at H
  have c2b0 := eq_true c2
  have c2b1 := decide_eq_true c2
  clear c2
  by_cases c3 : ((l0_2.length : Int) : Int).toNat ≤ 35184372088832
  ·rw [if_pos c3] at H
   have c3b0 := eq_true c3
   have c3b1 := decide_eq_true c3
   clear c3
   obtain ⟨y371, hy_⟩ : ∃ y_ : List Int, y_ = (List.replicate ((l0_2.length : Int) : Int).toNat 0) := ⟨_, rfl⟩
   replace H : (incunableref15_Marks.l0 k y371 0 0 a0_0 a0_1 l0_2) = some (r1, r2) := rh
   have Ny371 := aE hy_
   clear hy_
   have H' := Aside0.mk H
   clear H
   go_enter Try.func52, Try.ntmps52
   go_wp2_with (first | ((with_reducible refine gd 1 rfl ?_); refine bx 1 #[.int .i64 a0_0, .int .i64 a0_1, .slice A0_2 l0_2.length c0_2] 24 rfl rfl ?_; intro gb370 hg w4 hbox hb; have n_ := aC (bs hb) (aC hbox (aC (gz hg) (aE (gz hg)))); clear HB; obtain ⟨HB, BK370, GW370, GE370⟩ := n_; clear hb hbox hg; obtain ⟨hcz5_0, hcz5_1, hcz5_2, hfz5_0, hfz5_1, hfz5_2⟩ := cz3f BK370.out) | ((with_reducible refine gd 10 rfl ?_); refine Kd.R_make (Kd.int .i64) _ 3 rfl (N := 10) rfl 34 _ _ rfl (l0_2.length : Int) rfl rfl Try.underlying34 (.int .i64 0) 8 info3 rfl (by decide) (by omega) 0 (ok := fun _ => True) (okp := fun _ => True) rfl (fun _ hk => hk) trivial (dt) (Nat.le_trans (Nat.mul_le_mul_right _ (dt : (l0_2.length : Int).toNat ≤ 35184372088832)) (by omega)) (Below.refl _ _) (Nat.le_refl _) ?_; intro v372 w6 ho7 hb hg_ hnew_; clear hg_ hnew_; (first | rw [← Ny371.out] at ho7 | (simp only [Int.reduceToNat] at ho7; rw [← Ny371.out] at ho7)); have n_ := aC (Kd.R_lower ho7 bz) (aC (blk_below (bU BK370.out) hb) (aE (bs hb))); clear BK370 HB; obtain ⟨HO373, BK370, HB⟩ := n_; clear hb ho7))
   go_loopg [5, 6] k (fun kq v5 v6 w' => ∃ (x4_1 : List Int) (x5_1 : Int) (x6_1 : Int), v5 = .int .i64 x5_1 ∧ v6 = .int .i64 x6_1 ∧ Aside0 (incunableref15_Marks.l0 kq x4_1 x5_1 x6_1 a0_0 a0_1 l0_2 = some (r1, r2)) ∧ Aside0 (kq ≤ k) ∧ Aside0 (Kd.R (Kd.int .i64) 3 w' w.heap.size (fun _ => True) v372 x4_1) ∧ Aside0 (w'.heap[gb370]? = some (.cells #[.int .i64 a0_0, .int .i64 a0_1, (.slice A0_2 l0_2.length c0_2)] 24 (0, 0))) ∧ Aside0 (Below w.heap.size w w'))
   case atStart => exact ⟨(y371), (0), (0), rq, rq, H', ⟨Nat.le_refl _⟩, ⟨rU HO373.out⟩, ⟨bU BK370.out⟩, ⟨bl⟩⟩
   case round =>
    clear H'
    obtain ⟨x4_1, x5_1, x6_1, rfl, rfl, HA, HK1, HO_4, BK370, HB⟩ := hrel
    cases gk with
    | zero => exact absurd HA.out (by simp [incunableref15_Marks.l0])
    | succ k1 =>
     have H := HA.out
     clear HA
     simp only [incunableref15_Marks.l0] at H
     by_cases c8 : x6_1 < (l0_2.length : Int)
     ·rw [if_pos c8] at H
      have c8b0 := decide_eq_true c8
      clear c8
      by_cases c9 : 0 ≤ x6_1
      ·rw [if_pos c9] at H
       have c9b0 := decide_eq_true c9
       clear c9
       by_cases c10 : (rd l0_2 x6_1) = 1
       ·rw [if_pos c10] at H
        have c10b0 := beq_iff_eq.mpr c10
        have c10b1 := bne_eq_false_iff_eq.mpr c10
        clear c10
        by_cases c11 : x6_1 < (x4_1.length : Int)
        ·rw [if_pos c11] at H
         have c11b0 := decide_eq_true c11
         clear c11
         by_cases c12 : (rd x4_1 x6_1) = 0
         ·rw [if_pos c12] at H
          have c12b0 := beq_iff_eq.mpr c12
          have c12b1 := bne_eq_false_iff_eq.mpr c12
          clear c12
          replace H := Option.bind_eq_some_iff.mp H
          obtain ⟨⟨t376, t377⟩, A130, H⟩ := H
          replace H : (incunableref15_Marks.l0 k1 t377 (wrap64 (x5_1 + 1)) (wrap64 (x6_1 + 1)) a0_0 a0_1 l0_2) = some (r1, r2) := H
          have A13 := Aside0.mk A130
          clear A130
          have H' := Aside0.mk H
          clear H
          obtain ⟨hcz14_0, hcz14_1, hcz14_2, hfz14_0, hfz14_1, hfz14_2⟩ := cz3f BK370.out
          have p374 : 0 ≤ (x6_1 : Int) := dt
          have q374 : x6_1 < (l0_2.length : Int) := dt
          obtain ⟨ad374, e374, hx374_0⟩ := Kd.at_int HR0_2.out x6_1 p374 q374
          cases e374
          replace hx374_0 := hcB HB.out hx374_0
          replace p374 := eq_true p374
          replace q374 := eq_true q374
          obtain ⟨Ao15, co15, eo15⟩ := Kd.R_slice HO_4.out
          subst eo15
          have p375 : 0 ≤ (x6_1 : Int) := dt
          have q375 : x6_1 < (x4_1.length : Int) := dt
          obtain ⟨ad375, e375, hx375_0⟩ := Kd.at_int (Kd.R_reads' HO_4.out).2.2 x6_1 p375 q375
          cases e375
          replace p375 := eq_true p375
          replace q375 := eq_true q375
          go_wp2_with (first | ((with_reducible refine gf 44 rfl ?_); refine gL (some 37) rfl rfl Try.func44 rfl #[.agg #[.int .i64 a0_0, .int .i64 a0_1, .slice (some ad374) l0_2.length c0_2], .slice (some ad375) x4_1.length co15, .int .i64 x6_1, .int .i64 (wrap64 (x5_1 + 1)), .int .i64 1, .bool true] rfl ?_; (with_reducible refine (incunableref15_spread.calls k1 a0_0 a0_1 _ _ l0_2 (fun k_ => some k_ = (.slice (some ad375) x4_1.length co15 : Value).ownBlock) (.slice (some ad375) x4_1.length co15) x4_1 x6_1 (wrap64 (x5_1 + 1)) 1 true t376 t377 w _ ?side1 ?side2 ?side3 ?side4 A13.out).mono ?_); (case side1 => repeat (first | (with_reducible first | exact HB.out | apply below_alloc | apply pw_below_drewN | apply below_drew1 | refine below_set ?_ GE370.out) | exact HB.out)); (case side2 => exact Kd.C_kept_came (Kd.heap_int .u8) HR0_2.out bl (fun k_ hs_ => (fun e_ => Kd.R_base HO_4.out k_ e_.symm) hs_)); (case side3 => exact HC0_2.out); (case side4 => exact Kd.R_tight rfl HO_4.out); rintro e w16 ⟨rfl, hy0, hb, hkp⟩; refine ⟨_, rfl, ?_⟩; have n_ := aC (Kd.R_reok rfl hy0 (fun k_ e_ => HO_4.out.1 k_ e_)) (aC (blk_kept (bU BK370.out) hkp (fun hs_ => (fun e_ => (Kd.R_ne HO_4.out BK370.out (by decide)) e_) hs_)) (aE hb)); clear HO_4 BK370 HB; obtain ⟨HO_4, BK370, HB⟩ := n_; (try clear hb); (try clear hkp); (try clear hy0)))
          go_roundg k1
          case measure => have := HK1.out; omega
          case rel => exact ⟨(t377), (wrap64 (x5_1 + 1)), (wrap64 (x6_1 + 1)), rq, rq, H', ⟨by have := HK1.out; omega⟩, ⟨rU HO_4.out⟩, ⟨bU BK370.out⟩, ⟨bl⟩⟩
         ·rw [if_neg c12] at H
          have c12b0 := beq_eq_false_iff_ne.mpr c12
          have c12b1 := bne_iff_ne.mpr c12
          have H' := Aside0.mk H
          clear H
          obtain ⟨hcz17_0, hcz17_1, hcz17_2, hfz17_0, hfz17_1, hfz17_2⟩ := cz3f BK370.out
          have p374 : 0 ≤ (x6_1 : Int) := dt
          have q374 : x6_1 < (l0_2.length : Int) := dt
          obtain ⟨ad374, e374, hx374_0⟩ := Kd.at_int HR0_2.out x6_1 p374 q374
          cases e374
          replace hx374_0 := hcB HB.out hx374_0
          replace p374 := eq_true p374
          replace q374 := eq_true q374
          obtain ⟨Ao18, co18, eo18⟩ := Kd.R_slice HO_4.out
          subst eo18
          have p375 : 0 ≤ (x6_1 : Int) := dt
          have q375 : x6_1 < (x4_1.length : Int) := dt
          obtain ⟨ad375, e375, hx375_0⟩ := Kd.at_int (Kd.R_reads' HO_4.out).2.2 x6_1 p375 q375
          cases e375
          replace p375 := eq_true p375
          replace q375 := eq_true q375
          go_wp2
          go_roundg k1
          case measure => have := HK1.out; omega
          case rel => exact ⟨(x4_1), (x5_1), (wrap64 (x6_1 + 1)), rq, rq, H', ⟨by have := HK1.out; omega⟩, ⟨rU HO_4.out⟩, ⟨bU BK370.out⟩, ⟨bl⟩⟩
        ·rw [if_neg c11] at H
         exact absurd H (by simp)
       ·rw [if_neg c10] at H
        have c10b0 := beq_eq_false_iff_ne.mpr c10
        have c10b1 := bne_iff_ne.mpr c10
        have H' := Aside0.mk H
        clear H
        obtain ⟨hcz19_0, hcz19_1, hcz19_2, hfz19_0, hfz19_1, hfz19_2⟩ := cz3f BK370.out
        have p374 : 0 ≤ (x6_1 : Int) := dt
        have q374 : x6_1 < (l0_2.length : Int) := dt
        obtain ⟨ad374, e374, hx374_0⟩ := Kd.at_int HR0_2.out x6_1 p374 q374
        cases e374
        replace hx374_0 := hcB HB.out hx374_0
        replace p374 := eq_true p374
        replace q374 := eq_true q374
        go_wp2
        go_roundg k1
        case measure => have := HK1.out; omega
        case rel => exact ⟨(x4_1), (x5_1), (wrap64 (x6_1 + 1)), rq, rq, H', ⟨by have := HK1.out; omega⟩, ⟨rU HO_4.out⟩, ⟨bU BK370.out⟩, ⟨bl⟩⟩
      ·rw [if_neg c9] at H
       exact absurd H (by simp)
     ·rw [if_neg c8] at H
      have c8b0 := decide_eq_false c8
      clear c8
      simp only [Option.some.injEq, Prod.mk.injEq] at H
      obtain ⟨rfl, rfl⟩ := H
      obtain ⟨hcz20_0, hcz20_1, hcz20_2, hfz20_0, hfz20_1, hfz20_2⟩ := cz3f BK370.out
      go_wp2
      go_ret2
      exact ⟨_, re, rU HO_4.out, bl⟩
  ·rw [if_neg c3] at H
   exact absurd H (by simp)
 ·rw [if_neg c2] at H
  exact absurd H (by simp)

/-! ### incunableref05_Copy: function 53 -/
def incunableref05_Copy.f (a0_0 : Int) (a0_1 : Int) (l0_2 : List Int) : Option (Int × Int × List Int) := (some (([] : List Int) : List Int)).bind fun y380 => (if y380.length + l0_2.length < 140737488355328 then (some (a0_0, a0_1, (y380 ++ l0_2))) else (none))
def incunableref05_Copy.T1 : Bool × List (List Nat × List Nat) := (true, [([], []), ([0], [0]), ([], []), ([2], [2]), ([], []), ([], []), ([5], [5]), ([4, 6], [4, 6]), ([1, 3, 7], [1, 3, 7]), ([8, 7, 0, 1, 2, 3, 4, 5, 6, 7, 8], [8])])
def incunableref05_Copy.B1 : List Nat := [0, 1, 0, 4, 0, 0, 32, 112, 255, 511]
theorem incunableref05_Copy.tab1 : rtab .any (opsOf Try.f53 1) = incunableref05_Copy.T1 := by kernel_rfl
theorem incunableref05_Copy.bits1 : waitsOk incunableref05_Copy.T1.2 incunableref05_Copy.B1 = true := by kernel_rfl
set_option maxHeartbeats 8000000 in
set_option maxRecDepth 100000 in
theorem incunableref05_Copy.calls (a0_0 : Int) (a0_1 : Int) (A0_2 : Option Addr) (c0_2 : Nat) (l0_2 : List Int) (r1 : Int) (r2 : Int) (r3 : List Int) (w : World) (hr0_2 : Kd.C (Kd.int .u8) w A0_2 l0_2.length l0_2) (hc0_2 : l0_2.length ≤ c0_2) (h : incunableref05_Copy.f a0_0 a0_1 l0_2 = some (r1, r2, r3)) :
  Calls Try.prog 53 #[.agg #[.int .i64 a0_0, .int .i64 a0_1, .slice A0_2 l0_2.length c0_2]] w fun e w' => ∃ v2_ : Value, e = .returned (.agg #[.int .i64 r1, .int .i64 r2, v2_]) ∧ Kd.R (Kd.int .u8) 5 w' w.heap.size (fun _ => True) v2_ r3 ∧ Below w.heap.size w w' := by
 have hu24 := Try.underlying24
 have HR0_2 := Aside0.mk hr0_2
 have HC0_2 := Aside0.mk hc0_2
 clear hr0_2 hc0_2
 have HB := Aside0.mk (Below.refl w.heap.size w)
 have H : ((some (([] : List Int) : List Int)).bind fun y380 => (if y380.length + l0_2.length < 140737488355328 then (some (a0_0, a0_1, (y380 ++ l0_2))) else (none))) = some (r1, r2, r3) := h
 clear h
 obtain ⟨y380, hy_⟩ : ∃ y_ : List Int, y_ = (([] : List Int)) := ⟨_, rfl⟩
 replace H : (if y380.length + l0_2.length < 140737488355328 then (some (a0_0, a0_1, (y380 ++ l0_2))) else (none)) = some (r1, r2, r3) := rh
 have Ny380 := aE hy_
 clear hy_
 by_cases c2 : y380.length + l0_2.length < 140737488355328
 ·rw [if_pos c2] at H
  have LMc2 := Aside0.mk c2
  clear c2
  obtain ⟨y383, hy_⟩ : ∃ y_ : List Int, y_ = (y380 ++ l0_2) := ⟨_, rfl⟩
  replace H : (some (a0_0, a0_1, y383)) = some (r1, r2, r3) := rh
  have Ny383 := aE hy_
  clear hy_
  simp only [Option.some.injEq, Prod.mk.injEq] at H
  obtain ⟨rfl, rfl, rfl⟩ := H
  go_enter Try.func53, Try.ntmps53
  try go_wp2_with (first | ((with_reducible refine gd 1 rfl ?_); refine bx 1 #[.int .i64 a0_0, .int .i64 a0_1, .slice A0_2 l0_2.length c0_2] 24 rfl rfl ?_; intro gb378 hg w3 hbox hb; have n_ := aC (bs hb) (aC hbox (aC (gz hg) (aE (gz hg)))); clear HB; obtain ⟨HB, BK378, GW378, GE378⟩ := n_; clear hb hbox hg) | ((with_reducible refine gd 2 rfl ?_); refine bx 2 #[.int .i64 0, .int .i64 0, .slice none 0 0] 24 rfl rfl ?_; intro gb379 hg w4 hbox hb; have n_ := aC (blk_below (bU BK378.out) hb) (aC (bs hb) (aC hbox (aC (gz hg) (aC (gz hg) (aC (gn hg (bU BK378.out)) (aE (gm hg (bU BK378.out)))))))); clear BK378 HB; obtain ⟨BK378, HB, BK379, GW379, GE379, NB378_379, NB379_378⟩ := n_; clear hb hbox hg))
  have n_ := aC (blk_drew BK378.out) (aC (blk_drew BK379.out) (aE (below_drew1 HB.out)))
  clear BK378 BK379 HB
  obtain ⟨BK378, BK379, HB⟩ := n_
  refine st 10 (fun w' => w'.cell? ⟨gb378, 0, none⟩ = some (.int .i64 a0_0) ∧ w'.cell? ⟨gb378, 1, none⟩ = some (.int .i64 a0_1) ∧ w'.cell? ⟨gb378, 2, none⟩ = some (.slice A0_2 l0_2.length c0_2)) [] (bv 10 0) incunableref05_Copy.tab1 incunableref05_Copy.bits1 ⟨kc0 BK378.out, kc1 BK378.out, kc2 BK378.out⟩ (fun hHeld HT_ HW_ => ?_)
  generalize w4.drew = w5 at BK378 BK379 HB hHeld ⊢
  refine pu 0 3 (bv 10 1) HT_ rfl rfl ?_
  refine pu 2 5 (bv 10 5) HT_ rfl rfl ?_
  refine pu 5 8 (bv 10 37) HT_ rfl rfl ?_
  refine tk 1 4 (bv 10 39) HT_ HW_ hHeld rfl rfl (by rintro w' ⟨s0, s1, s2⟩; exact yl) ?_
  refine tk 3 6 (bv 10 47) HT_ HW_ hHeld rfl rfl (by rintro w' ⟨s0, s1, s2⟩; exact yl) ?_
  refine tk 6 9 (bv 10 111) HT_ HW_ hHeld rfl rfl (by rintro w' ⟨s0, s1, s2⟩; exact yl) ?_
  refine one_ (i := 4) (N := some 7) (bv 10 127) rfl rfl (one_of HT_.out (by kernel_rfl)) (by decide) (fun K hK => ?_)
  refine Kd.R_lit_step (Kd.int .u8) _ 5 ?hg (N := 7) ?hd (xs := ([] : List Int)) (inner := []) (ok := fun _ => True) (okp := fun _ => True) ?hr ?hp (fun _ hk => hk) trivial (Below.refl _ _) (Nat.le_refl _) (by simp) ?_; (case hd => rfl); (case hg => rfl); (case hr => first | (go_simp; done) | (go_simp; rfl)); (case hp => exact (Reps.none _ _))
  intro v381 w6 ho7 hb hg_ hnew_
  clear hg_ hnew_
  (first | rw [← Ny380.out] at ho7 | (simp only [Int.reduceToNat] at ho7; rw [← Ny380.out] at ho7))
  have n_ := aC (Kd.R_lower ho7 bz) (aC (blk_below (bU BK378.out) hb) (aC (blk_below (bU BK379.out) hb) (aE (bs hb))))
  clear BK378 BK379 HB
  obtain ⟨HO382, BK378, BK379, HB⟩ := n_
  clear hb ho7
  refine hK.out _ _ ⟨kc0 BK378.out, kc1 BK378.out, kc2 BK378.out⟩ (fun hHeld => ?_)
  clear hK K
  refine nm (some 7) ?_
  refine one_ (i := 7) (N := some 10) (bv 10 255) rfl rfl (one_of HT_.out (by kernel_rfl)) (by decide) (fun K hK => ?_)
  refine Kd.R_append_rows_step (Kd.int .u8) (w0 := w) w.heap.size (by rfl) (.tmp 7) (.tmp 9) 22 5 (.int .u8 0) 1 rfl Try.underlying22 info5 rfl (by decide) (by omega) v381 y380 l0_2 _ _ _ (fun _ => True) (fun _ => False) rfl rfl ?aO ?aR (fun _ _ h => h) (fun _ h => h.elim) ?aF ?aB ?aS ?aL ?_
  (case aR => repeat (first | exact (Kd.C_below HR0_2.out HB.out) | (with_reducible refine Kd.C_alloc ?_ _) | (with_reducible refine Kd.C_drewN ?_ _) | (with_reducible refine Kd.C_drew ?_)))
  (case aB => exact bl)
  (case aF => exact (fun _ _ => trivial))
  (case aO => exact (rU HO382.out))
  (case aS => exact bz)
  (case aL => have := LMc2.out; omega)
  intro v384 w8 ho hb hg hat
  rw [← Ny383.out] at ho
  have n_ := aC (blk_grown (bU BK378.out) hg (Kd.R_ne HO382.out BK378.out (by decide))) (aC (blk_grown (bU BK379.out) hg (Kd.R_ne HO382.out BK379.out (by decide))) (aC hb (aE ho)))
  clear BK378 BK379 HB HO382
  obtain ⟨BK378, BK379, HB, HO385⟩ := n_
  clear ho hb hg hat
  obtain ⟨Ao9, co9, eo9⟩ := Kd.R_slice HO385.out
  (first | subst eo9 | (injection eo9 with f1_ f2_ f3_; have f4_ := f1_.symm; have f5_ := f3_.symm; clear f1_ f2_ f3_; subst f4_; subst f5_))
  refine hK.out _ _ ⟨kc0 BK378.out, kc1 BK378.out, kc2 BK378.out⟩ (fun hHeld => ?_)
  clear hK K
  refine nm (some 10) ?_
  refine pu 8 11 (bv 10 511) HT_ rfl rfl ?_
  refine one_ (i := 9) (N := none) (bv 10 1023) rfl rfl (one_of HT_.out (by kernel_rfl)) (by decide) (fun K hK => ?_)
  have hs10 : w8.cell? ⟨gb379, 0, none⟩ = some (.int .i64 0) := (blk_cell BK379.out 0).trans rfl
  have hfs10 := blk_frozen BK379.out 0
  have hns10_0 := NB378_379.out
  have hms10_0 := NB379_378.out
  have hs11 : w8.cell? ⟨gb379, 1, none⟩ = some (.int .i64 0) := (blk_cell BK379.out 1).trans rfl
  have hfs11 := blk_frozen BK379.out 1
  have hns11_0 := NB378_379.out
  have hms11_0 := NB379_378.out
  have hs12 : w8.cell? ⟨gb379, 2, none⟩ = some (.slice none 0 0) := (blk_cell BK379.out 2).trans rfl
  have hfs12 := blk_frozen BK379.out 2
  have hns12_0 := NB378_379.out
  have hms12_0 := NB379_378.out
  refine skip_ (w1 := ?_) (by rfl) rfl ?_ ?_
  rotate_left
  ·go_simp
   rfl
  refine hK.out _ _ ⟨((cell_far (p := ⟨gb379, _, none⟩) NB378_379.out _).trans (((cell_far (p := ⟨gb379, _, none⟩) NB378_379.out _).trans (((cell_far (p := ⟨gb379, _, none⟩) NB378_379.out _).trans (hHeld.1)))))), ((cell_far (p := ⟨gb379, _, none⟩) NB378_379.out _).trans (((cell_far (p := ⟨gb379, _, none⟩) NB378_379.out _).trans (((cell_far (p := ⟨gb379, _, none⟩) NB378_379.out _).trans (hHeld.2.1)))))), ((cell_far (p := ⟨gb379, _, none⟩) NB378_379.out _).trans (((cell_far (p := ⟨gb379, _, none⟩) NB378_379.out _).trans (((cell_far (p := ⟨gb379, _, none⟩) NB378_379.out _).trans (hHeld.2.2))))))⟩ (fun hHeld => ?_)
  clear hK K
  refine done_ (done_of HT_.out (by kernel_rfl)) ?_
  try go_wp2
  refine bodyPost_ret (results_cell_row rfl _ _ gb379 24 #[.int .i64 a0_0, .int .i64 a0_1, .slice Ao9 y383.length co9] (0, 0) _ rfl (by (with_reducible repeat (first | refine blk_drewN ?_ _ | refine blk_drew ?_ | refine blk_alloc ?_ _)); refine blk_put (cs := #[.int .i64 a0_0, .int .i64 a0_1, .slice none 0 0]) ?_ 2 _ rfl; (with_reducible repeat (first | refine blk_drewN ?_ _ | refine blk_drew ?_ | refine blk_alloc ?_ _)); refine blk_put (cs := #[.int .i64 a0_0, .int .i64 0, .slice none 0 0]) ?_ 1 _ rfl; (with_reducible repeat (first | refine blk_drewN ?_ _ | refine blk_drew ?_ | refine blk_alloc ?_ _)); refine blk_put (cs := #[.int .i64 0, .int .i64 0, .slice none 0 0]) ?_ 0 _ rfl; (with_reducible repeat (first | refine blk_drewN ?_ _ | refine blk_drew ?_ | refine blk_alloc ?_ _)); exact BK379.out) Try.underlying24 rfl (by kernel_rfl)) rfl ?_
  exact ⟨_, re, rU (Kd.R_mono (Kd.R_far (p := ⟨gb379, 2, none⟩) (Kd.R_far (p := ⟨gb379, 1, none⟩) (Kd.R_far (p := ⟨gb379, 0, none⟩) (Kd.R_types HO385.out BK379.out (by decide)) (fun _ hk => hk.2) (.int .i64 a0_0)) (fun _ hk => hk.2) (.int .i64 a0_1)) (fun _ hk => hk.2) (.slice Ao9 y383.length co9)) (fun _ hk => trivial)), bl⟩
 ·rw [if_neg c2] at H
  exact absurd H (by simp)

/-! ### incunableref15_Components: function 22 -/
mutual
def incunableref15_Components.l0 : Nat → List Int → Int → List (S48) → Int → Int → Int → List Int → Option ((List (S48)) × Int)
 | 0, _, _, _, _, _, _, _ => none
 | k + 1, x4, x5, x6, x7, x387000, x387001, x387002 => if x7 ≤ x5 then ((incunableref05_Copy.f x387000 x387001 x387002).bind fun bt392 => (incunableref15_Components.l1 k x4 x5 x6 x7 0 x387000 x387001 x387002 bt392.1 bt392.2.1 bt392.2.2)) else (some (x6, 0))
def incunableref15_Components.l1 : Nat → List Int → Int → List (S48) → Int → Int → Int → Int → List Int → Int → Int → List Int → Option ((List (S48)) × Int)
 | 0, _, _, _, _, _, _, _, _, _, _, _ => none
 | k + 1, x4, x5, x6, x7, x9, x387000, x387001, x387002, x398000, x398001, x398002 => if x9 < (x4.length : Int) then (if 0 ≤ x9 then (if (rd x4 x9) = x7 then (incunableref15_Components.l1 k x4 x5 x6 x7 (wrap64 (x9 + 1)) x387000 x387001 x387002 x398000 x398001 x398002) else (if x9 < (x398002.length : Int) then (incunableref15_Components.l1 k x4 x5 x6 x7 (wrap64 (x9 + 1)) x387000 x387001 x387002 x398000 x398001 (x398002.set (x9 : Int).toNat 0)) else (none))) else (none)) else ((incunableref05_Trim.f k x398000 x398001 x398002).bind fun bt400 => (if x6.length < 2513169434916 then (incunableref15_Components.l0 k x4 x5 (x6 ++ [(⟨(⟨bt400.1, bt400.2.1, bt400.2.2.1⟩ : S24), bt400.2.2.2.1, bt400.2.2.2.2.1⟩ : S48)]) (wrap64 (x7 + 1)) x387000 x387001 x387002) else (none)))
end
def incunableref15_Components.f (k : Nat) (a0_0 : Int) (a0_1 : Int) (l0_2 : List Int) : Option ((List (S48)) × Int) := (incunableref05_Valid.f k a0_0 a0_1 l0_2).bind fun t387 => (if t387 = true then ((incunableref15_Marks.f k a0_0 a0_1 l0_2).bind fun bt388 => (incunableref15_Components.l0 k bt388.1 bt388.2 ([] : List (S48)) 1 a0_0 a0_1 l0_2)) else (some (([] : List (S48)), 30)))
theorem incunableref15_Components.mono_l : ∀ k, (∀ y0 y1 y2 y3 y4 y5 y6, LeO (incunableref15_Components.l0 k y0 y1 y2 y3 y4 y5 y6) (incunableref15_Components.l0 (k + 1) y0 y1 y2 y3 y4 y5 y6)) ∧ (∀ y0 y1 y2 y3 y4 y5 y6 y7 y8 y9 y10, LeO (incunableref15_Components.l1 k y0 y1 y2 y3 y4 y5 y6 y7 y8 y9 y10) (incunableref15_Components.l1 (k + 1) y0 y1 y2 y3 y4 y5 y6 y7 y8 y9 y10))
 | 0 => ⟨fun _ _ _ _ _ _ _ r h => by simp [incunableref15_Components.l0] at h, fun _ _ _ _ _ _ _ _ _ _ _ r h => by simp [incunableref15_Components.l1] at h⟩
 | k + 1 => by
  obtain ⟨ih0, ih1⟩ := incunableref15_Components.mono_l k
  refine ⟨?_, ?_⟩
  ·intro y0 y1 y2 y3 y4 y5 y6
   unfold incunableref15_Components.l0
   repeat' first
   | (with_reducible exact ih0 _ _ _ _ _ _ _)
   | (with_reducible exact ih1 _ _ _ _ _ _ _ _ _ _ _)
   | (with_reducible exact incunableref05_Trim.mono _ _ _ _)
   | (with_reducible exact incunableref05_Valid.mono _ _ _ _)
   | (with_reducible exact incunableref15_Marks.mono _ _ _ _)
   | (with_reducible first | exact LeO.refl _ | exact LeO.none _ | refine LeO.ite ?_ ?_ | refine LeO.bind ?_ (fun _ => ?_))
   | exact ih0 _ _ _ _ _ _ _
   | exact ih1 _ _ _ _ _ _ _ _ _ _ _
   | exact incunableref05_Trim.mono _ _ _ _
   | exact incunableref05_Valid.mono _ _ _ _
   | exact incunableref15_Marks.mono _ _ _ _
   | exact LeO.none _ | refine LeO.ite ?_ ?_ | refine LeO.bind ?_ (fun _ => ?_)
  ·intro y0 y1 y2 y3 y4 y5 y6 y7 y8 y9 y10
   unfold incunableref15_Components.l1
   repeat' first
   | (with_reducible exact ih0 _ _ _ _ _ _ _)
   | (with_reducible exact ih1 _ _ _ _ _ _ _ _ _ _ _)
   | (with_reducible exact incunableref05_Trim.mono _ _ _ _)
   | (with_reducible exact incunableref05_Valid.mono _ _ _ _)
   | (with_reducible exact incunableref15_Marks.mono _ _ _ _)
   | (with_reducible first | exact LeO.refl _ | exact LeO.none _ | refine LeO.ite ?_ ?_ | refine LeO.bind ?_ (fun _ => ?_))
   | exact ih0 _ _ _ _ _ _ _
   | exact ih1 _ _ _ _ _ _ _ _ _ _ _
   | exact incunableref05_Trim.mono _ _ _ _
   | exact incunableref05_Valid.mono _ _ _ _
   | exact incunableref15_Marks.mono _ _ _ _
   | exact LeO.none _ | refine LeO.ite ?_ ?_ | refine LeO.bind ?_ (fun _ => ?_)
theorem incunableref15_Components.mono : ∀ a0 a1 a2 k, LeO (incunableref15_Components.f k a0 a1 a2) (incunableref15_Components.f (k + 1) a0 a1 a2) := by
 intro a0 a1 a2 k
 obtain ⟨ih0, ih1⟩ := incunableref15_Components.mono_l k
 unfold incunableref15_Components.f
 repeat' first
   | (with_reducible exact ih0 _ _ _ _ _ _ _)
   | (with_reducible exact ih1 _ _ _ _ _ _ _ _ _ _ _)
   | (with_reducible exact incunableref05_Trim.mono _ _ _ _)
   | (with_reducible exact incunableref05_Valid.mono _ _ _ _)
   | (with_reducible exact incunableref15_Marks.mono _ _ _ _)
   | (with_reducible first | exact LeO.refl _ | exact LeO.none _ | refine LeO.ite ?_ ?_ | refine LeO.bind ?_ (fun _ => ?_))
   | exact ih0 _ _ _ _ _ _ _
   | exact ih1 _ _ _ _ _ _ _ _ _ _ _
   | exact incunableref05_Trim.mono _ _ _ _
   | exact incunableref05_Valid.mono _ _ _ _
   | exact incunableref15_Marks.mono _ _ _ _
   | exact LeO.none _ | refine LeO.ite ?_ ?_ | refine LeO.bind ?_ (fun _ => ?_)
set_option maxHeartbeats 8000000 in
set_option maxRecDepth 100000 in
theorem incunableref15_Components.calls (k : Nat) (a0_0 : Int) (a0_1 : Int) (A0_2 : Option Addr) (c0_2 : Nat) (l0_2 : List Int) (r1 : List (S48)) (r2 : Int) (w : World) (hr0_2 : Kd.C (Kd.int .u8) w A0_2 l0_2.length l0_2) (hc0_2 : l0_2.length ≤ c0_2) (h : incunableref15_Components.f k a0_0 a0_1 l0_2 = some (r1, r2)) :
  Calls Try.prog 22 #[.agg #[.int .i64 a0_0, .int .i64 a0_1, .slice A0_2 l0_2.length c0_2]] w fun e w' => ∃ v0_ : Value, e = .returned (.tuple #[v0_, .int .i64 r2]) ∧ Kd.S k48 48 w' w.heap.size (fun _ => True) v0_ r1 ∧ Below w.heap.size w w' := by
 have hu24 := Try.underlying24
 have hu48 := Try.underlying48
 have HR0_2 := Aside0.mk hr0_2
 have HC0_2 := Aside0.mk hc0_2
 clear hr0_2 hc0_2
 have HB := Aside0.mk (Below.refl w.heap.size w)
 have H : ((incunableref05_Valid.f k a0_0 a0_1 l0_2).bind fun t387 => (if t387 = true then ((incunableref15_Marks.f k a0_0 a0_1 l0_2).bind fun bt388 => (incunableref15_Components.l0 k bt388.1 bt388.2 ([] : List (S48)) 1 a0_0 a0_1 l0_2)) else (some (([] : List (S48)), 30)))) = some (r1, r2) := h
 clear h
 replace H := Option.bind_eq_some_iff.mp H
 obtain ⟨t387, A20, H⟩ := H
 replace H : (if t387 = true then ((incunableref15_Marks.f k a0_0 a0_1 l0_2).bind fun bt388 => (incunableref15_Components.l0 k bt388.1 bt388.2 ([] : List (S48)) 1 a0_0 a0_1 l0_2)) else (some (([] : List (S48)), 30))) = some (r1, r2) := H
 have A2 := Aside0.mk A20
 clear A20
 by_cases c3 : t387 = true
 ·subst c3
  have H1 : ((incunableref15_Marks.f k a0_0 a0_1 l0_2).bind fun bt388 => (incunableref15_Components.l0 k bt388.1 bt388.2 ([] : List (S48)) 1 a0_0 a0_1 l0_2)) = some (r1, r2) := by rw [if_pos rfl] at H; exact H
  clear H
  have H := H1
  clear H1
  replace H := Option.bind_eq_some_iff.mp H
  obtain ⟨⟨t388, t391⟩, A40, H⟩ := H
  replace H : (incunableref15_Components.l0 k t388 t391 ([] : List (S48)) 1 a0_0 a0_1 l0_2) = some (r1, r2) := H
  have A4 := Aside0.mk A40
  clear A40
  have H' := Aside0.mk H
  clear H
  go_enter Try.func22, Try.ntmps22
  go_wp2_with (first | ((with_reducible refine gd 1 rfl ?_); refine bx 1 #[.int .i64 a0_0, .int .i64 a0_1, .slice A0_2 l0_2.length c0_2] 24 rfl rfl ?_; intro gb386 hg w5 hbox hb; have n_ := aC (bs hb) (aC hbox (aC (gz hg) (aE (gz hg)))); clear HB; obtain ⟨HB, BK386, GW386, GE386⟩ := n_; clear hb hbox hg; obtain ⟨hcz6_0, hcz6_1, hcz6_2, hfz6_0, hfz6_1, hfz6_2⟩ := cz3f BK386.out) | ((with_reducible refine gf 33 rfl ?_); refine gL (some 15) rfl rfl Try.func33 rfl #[.agg #[.int .i64 a0_0, .int .i64 a0_1, .slice A0_2 l0_2.length c0_2]] rfl ?_; (with_reducible refine (incunableref05_Valid.calls k a0_0 a0_1 _ _ l0_2 true _ ?side1 ?side2 A2.out).mono ?_); (case side1 => exact cU (Kd.C_below HR0_2.out HB.out)); (case side2 => exact HC0_2.out); rintro e w7 ⟨rfl, hb⟩; refine ⟨_, rfl, ?_⟩; have n_ := aC (blk_below (bU BK386.out) hb) (aE (bs hb)); clear BK386 HB; obtain ⟨BK386, HB⟩ := n_; (try clear hb); obtain ⟨hcz8_0, hcz8_1, hcz8_2, hfz8_0, hfz8_1, hfz8_2⟩ := cz3f BK386.out) | ((with_reducible refine gf 52 rfl ?_); refine gL (some 19) rfl rfl Try.func52 rfl #[.agg #[.int .i64 a0_0, .int .i64 a0_1, .slice A0_2 l0_2.length c0_2]] rfl ?_; (with_reducible refine (incunableref15_Marks.calls k a0_0 a0_1 _ _ l0_2 t388 t391 _ ?side1 ?side2 A4.out).mono ?_); (case side1 => exact cU (Kd.C_below HR0_2.out HB.out)); (case side2 => exact HC0_2.out); rintro e w9 ⟨v389, rfl, ho0, hb⟩; refine ⟨_, rfl, ?_⟩; have n_ := aC (Kd.R_lower ho0 bz) (aC (blk_below (bU BK386.out) hb) (aE (bs hb))); clear BK386 HB; obtain ⟨HO390, BK386, HB⟩ := n_; (try clear hb); (try clear ho0)))
  go_loopg [6, 7] k (fun kq v6 v7 w' => ∃ (x6_1 : List (S48)) (x7_1 : Int), v7 = .int .i64 x7_1 ∧ Aside0 (incunableref15_Components.l0 kq t388 t391 x6_1 x7_1 a0_0 a0_1 l0_2 = some (r1, r2)) ∧ Aside0 (kq ≤ k) ∧ Aside0 (Kd.R (Kd.int .i64) 3 w' w.heap.size (fun _ => True) v389 t388) ∧ Aside0 (Kd.S k48 48 w' w.heap.size (fun _ => True) v6 x6_1) ∧ Aside0 (w'.heap[gb386]? = some (.cells #[.int .i64 a0_0, .int .i64 a0_1, (.slice A0_2 l0_2.length c0_2)] 24 (0, 0))) ∧ Aside0 (Below w.heap.size w w'))
  case atStart => exact ⟨(([] : List (S48))), (1), rq, H', ⟨Nat.le_refl _⟩, ⟨rU HO390.out⟩, ⟨by first | exact Kd.S_nil _ _ _ _ _ | exact Kd.N_nil _ _ _ _ _ | exact Kd.V_nil _ _ _ _ _ | exact Kd.Q_nil _ _ _ _ _ | exact Kd.R_nil _ _ _ _ _⟩, ⟨bU BK386.out⟩, ⟨bl⟩⟩
  case round =>
   clear H'
   obtain ⟨x6_1, x7_1, rfl, HA, HK1, HO_4, HO_6, BK386, HB⟩ := hrel
   cases gk with
   | zero => exact absurd HA.out (by simp [incunableref15_Components.l0])
   | succ k1 =>
    have H := HA.out
    clear HA
    simp only [incunableref15_Components.l0] at H
    by_cases c10 : x7_1 ≤ t391
    ·rw [if_pos c10] at H
     have c10b0 := decide_eq_true c10
     clear c10
     replace H := Option.bind_eq_some_iff.mp H
     obtain ⟨⟨t392, t393, t394⟩, A110, H⟩ := H
     replace H : (incunableref15_Components.l1 k1 t388 t391 x6_1 x7_1 0 a0_0 a0_1 l0_2 t392 t393 t394) = some (r1, r2) := H
     have A11 := Aside0.mk A110
     clear A110
     have H' := Aside0.mk H
     clear H
     obtain ⟨hcz12_0, hcz12_1, hcz12_2, hfz12_0, hfz12_1, hfz12_2⟩ := cz3f BK386.out
     go_wp2_with (first | ((with_reducible refine gf 53 rfl ?_); refine gL (some 28) rfl rfl Try.func53 rfl #[.agg #[.int .i64 a0_0, .int .i64 a0_1, .slice A0_2 l0_2.length c0_2]] rfl ?_; (with_reducible refine (incunableref05_Copy.calls a0_0 a0_1 _ _ l0_2 t392 t393 t394 _ ?side1 ?side2 A11.out).mono ?_); (case side1 => exact cU (Kd.C_below HR0_2.out HB.out)); (case side2 => exact HC0_2.out); rintro e w13 ⟨v395, rfl, ho0, hb⟩; refine ⟨_, rfl, ?_⟩; have n_ := aC (Kd.R_below (rU HO_4.out) hb) (aC (Kd.S_elder' (by (with_reducible repeat (first | apply Kd.S_alloc | apply Kd.S_drewN | apply Kd.S_drew)); exact HO_6.out) (Kd.R_base ho0) hb) (aC (Kd.R_lower ho0 bz) (aC (blk_below (bU BK386.out) hb) (aE (bs hb))))); clear HO_4 HO_6 BK386 HB; obtain ⟨HO_4, HO_6, HO396, BK386, HB⟩ := n_; (try clear hb); (try clear ho0)) | ((with_reducible refine gd 8 rfl ?_); refine bx 8 #[.int .i64 0, .int .i64 0, .slice none 0 0] 24 rfl rfl ?_; intro gb397 hg w14 hbox hb; have n_ := aC (Kd.R_below (rU HO_4.out) hb) (aC (Kd.S_below (by (with_reducible repeat (first | apply Kd.S_alloc | apply Kd.S_drewN | apply Kd.S_drew)); exact HO_6.out) hb) (aC (Kd.R_below (rU HO396.out) hb) (aC (blk_below (bU BK386.out) hb) (aC (bs hb) (aC hbox (aC (gz hg) (aC (gz hg) (aC (gn hg (bU BK386.out)) (aE (gm hg (bU BK386.out))))))))))); clear HO_4 HO_6 HO396 BK386 HB; obtain ⟨HO_4, HO_6, HO396, BK386, HB, BK397, GW397, GE397, NB386_397, NB397_386⟩ := n_; clear hb hbox hg; have hnb15 := NB397_386.out; have hnc15 := NB386_397.out; obtain ⟨hcz16_0, hcz16_1, hcz16_2, hfz16_0, hfz16_1, hfz16_2⟩ := cz3f BK397.out; obtain ⟨Ao17, co17, eo17⟩ := Kd.R_slice HO396.out; subst eo17))
     go_loopg [9] k1 (fun kq v9 w' => ∃ (x9_2 : Int) (x398002_2 : List Int) (u398002 : Value), v9 = .int .i64 x9_2 ∧ Aside0 (incunableref15_Components.l1 kq t388 t391 x6_1 x7_1 x9_2 a0_0 a0_1 l0_2 t392 t393 x398002_2 = some (r1, r2)) ∧ Aside0 (kq ≤ k1) ∧ Aside0 (Kd.R (Kd.int .i64) 3 w' w.heap.size (fun _ => True) v389 t388) ∧ Aside0 (Kd.S k48 48 w' w.heap.size (fun k_ => some k_ ≠ (u398002 : Value).ownBlock) u6 x6_1) ∧ Aside0 (Kd.R (Kd.int .u8) 5 w' w.heap.size (fun _ => True) u398002 x398002_2) ∧ Aside0 (w'.heap[gb386]? = some (.cells #[.int .i64 a0_0, .int .i64 a0_1, (.slice A0_2 l0_2.length c0_2)] 24 (0, 0))) ∧ Aside0 (w'.heap[gb397]? = some (.cells #[.int .i64 t392, .int .i64 t393, u398002] 24 (0, 0))) ∧ Aside0 (Below w.heap.size w w'))
     case atStart => exact ⟨(0), (t394), (.slice Ao17 t394.length co17), rq, H', ⟨Nat.le_refl _⟩, ⟨rU (Kd.R_mono (Kd.R_far (p := ⟨gb397, 2, none⟩) (Kd.R_far (p := ⟨gb397, 1, none⟩) (Kd.R_far (p := ⟨gb397, 0, none⟩) (Kd.R_types HO_4.out BK397.out (by decide)) (fun _ hk => hk.2) (.int .i64 t392)) (fun _ hk => hk.2) (.int .i64 t393)) (fun _ hk => hk.2) (.slice Ao17 t394.length co17)) (fun _ hk => trivial))⟩, ⟨by (with_reducible repeat (first | apply Kd.S_alloc | apply Kd.S_drewN | apply Kd.S_drew)); exact Kd.S_mono (Kd.S_far (p := ⟨gb397, 2, none⟩) (Kd.S_far (p := ⟨gb397, 1, none⟩) (Kd.S_far (p := ⟨gb397, 0, none⟩) (Kd.S_types HO_6.out BK397.out (by decide)) (fun _ hk => hk.2) (.int .i64 t392)) (fun _ hk => hk.2) (.int .i64 t393)) (fun _ hk => hk.2) (.slice Ao17 t394.length co17)) (fun _ hk => hk.1.2)⟩, ⟨rU (Kd.R_mono (Kd.R_far (p := ⟨gb397, 2, none⟩) (Kd.R_far (p := ⟨gb397, 1, none⟩) (Kd.R_far (p := ⟨gb397, 0, none⟩) (Kd.R_types HO396.out BK397.out (by decide)) (fun _ hk => hk.2) (.int .i64 t392)) (fun _ hk => hk.2) (.int .i64 t393)) (fun _ hk => hk.2) (.slice Ao17 t394.length co17)) (fun _ hk => trivial))⟩, ⟨by (with_reducible repeat (first | refine blk_drewN ?_ _ | refine blk_drew ?_ | refine blk_alloc ?_ _)); refine blk_far ?_ NB386_397.out _; (with_reducible repeat (first | refine blk_drewN ?_ _ | refine blk_drew ?_ | refine blk_alloc ?_ _)); refine blk_far ?_ NB386_397.out _; (with_reducible repeat (first | refine blk_drewN ?_ _ | refine blk_drew ?_ | refine blk_alloc ?_ _)); refine blk_far ?_ NB386_397.out _; (with_reducible repeat (first | refine blk_drewN ?_ _ | refine blk_drew ?_ | refine blk_alloc ?_ _)); exact BK386.out⟩, ⟨by (with_reducible repeat (first | refine blk_drewN ?_ _ | refine blk_drew ?_ | refine blk_alloc ?_ _)); refine blk_put (cs := #[.int .i64 t392, .int .i64 t393, .slice none 0 0]) ?_ 2 _ rfl; (with_reducible repeat (first | refine blk_drewN ?_ _ | refine blk_drew ?_ | refine blk_alloc ?_ _)); refine blk_put (cs := #[.int .i64 t392, .int .i64 0, .slice none 0 0]) ?_ 1 _ rfl; (with_reducible repeat (first | refine blk_drewN ?_ _ | refine blk_drew ?_ | refine blk_alloc ?_ _)); refine blk_put (cs := #[.int .i64 0, .int .i64 0, .slice none 0 0]) ?_ 0 _ rfl; (with_reducible repeat (first | refine blk_drewN ?_ _ | refine blk_drew ?_ | refine blk_alloc ?_ _)); exact BK397.out⟩, ⟨bl⟩⟩
     case round =>
      clear H'
      obtain ⟨x9_2, x398002_2, u398002, rfl, HA, HK2, HO_4, HO_6, HO_398002, BK386, BK397, HB⟩ := hrel
      cases gk with
      | zero => exact absurd HA.out (by simp [incunableref15_Components.l1])
      | succ k2 =>
       have H := HA.out
       clear HA
       simp only [incunableref15_Components.l1] at H
       by_cases c18 : x9_2 < (t388.length : Int)
       ·rw [if_pos c18] at H
        have c18b0 := decide_eq_true c18
        clear c18
        by_cases c19 : 0 ≤ x9_2
        ·rw [if_pos c19] at H
         have c19b0 := decide_eq_true c19
         clear c19
         by_cases c20 : (rd t388 x9_2) = x7_1
         ·rw [if_pos c20] at H
          have c20b0 := beq_iff_eq.mpr c20
          have c20b1 := bne_eq_false_iff_eq.mpr c20
          clear c20
          have H' := Aside0.mk H
          clear H
          obtain ⟨Ao21, co21, eo21⟩ := Kd.R_slice HO_4.out
          subst eo21
          have p398 : 0 ≤ (x9_2 : Int) := dt
          have q398 : x9_2 < (t388.length : Int) := dt
          obtain ⟨ad398, e398, hx398_0⟩ := Kd.at_int (Kd.R_reads' HO_4.out).2.2 x9_2 p398 q398
          cases e398
          replace p398 := eq_true p398
          replace q398 := eq_true q398
          go_wp2
          go_roundg k2
          case measure => have := HK1.out; have := HK2.out; omega
          case rel => exact ⟨(wrap64 (x9_2 + 1)), (x398002_2), (u398002), rq, H', ⟨by have := HK1.out; have := HK2.out; omega⟩, ⟨rU HO_4.out⟩, ⟨by (with_reducible repeat (first | apply Kd.S_alloc | apply Kd.S_drewN | apply Kd.S_drew)); exact HO_6.out⟩, ⟨rU HO_398002.out⟩, ⟨bU BK386.out⟩, ⟨bU BK397.out⟩, ⟨bl⟩⟩
         ·rw [if_neg c20] at H
          have c20b0 := beq_eq_false_iff_ne.mpr c20
          have c20b1 := bne_iff_ne.mpr c20
          by_cases c22 : x9_2 < (x398002_2.length : Int)
          ·rw [if_pos c22] at H
           have c22b0 := decide_eq_true c22
           clear c22
           obtain ⟨y399, hy_⟩ : ∃ y_ : List Int, y_ = (x398002_2.set (x9_2 : Int).toNat 0) := ⟨_, rfl⟩
           replace H : (incunableref15_Components.l1 k2 t388 t391 x6_1 x7_1 (wrap64 (x9_2 + 1)) a0_0 a0_1 l0_2 t392 t393 y399) = some (r1, r2) := rh
           have Ny399 := aE hy_
           clear hy_
           have H' := Aside0.mk H
           clear H
           obtain ⟨Ao24, co24, eo24⟩ := Kd.R_slice HO_4.out
           subst eo24
           have p398 : 0 ≤ (x9_2 : Int) := dt
           have q398 : x9_2 < (t388.length : Int) := dt
           obtain ⟨ad398, e398, hx398_0⟩ := Kd.at_int (Kd.R_reads' HO_4.out).2.2 x9_2 p398 q398
           cases e398
           replace p398 := eq_true p398
           replace q398 := eq_true q398
           have hnb25 := NB397_386.out
           have hnc25 := NB386_397.out
           obtain ⟨hcz26_0, hcz26_1, hcz26_2, hfz26_0, hfz26_1, hfz26_2⟩ := cz3f BK397.out
           have p23 : 0 ≤ (x9_2 : Int) := dt
           have q23 : (x9_2 : Int) < ((x398002_2.length : Int) : Int) := dt
           obtain ⟨go23, co23, eo23, gb23, gl23, cl23, HG23⟩ := Kd.R_form HO_398002.out (by omega)
           (first | cases eo23 | (injection eo23 with ea_ en_ ec_; (first | subst ea_ | (injection ea_ with ea_; subst ea_)); subst ec_; clear en_))
           have GB23 := Aside0.mk gb23
           have GG23 := Aside0.mk HG23
           clear gb23 gl23 HG23
           obtain ⟨hx23_0, hf23_0⟩ := Kd.R_celln 0 HO_398002.out (x9_2 : Int) p23 q23
           replace p23 := eq_true p23
           replace q23 := eq_true q23
           have HP27 := Kd.R_putg HO_398002.out (x9_2 : Int) 0
           go_wp2_with (first | ((with_reducible refine gate_store (t := 5) (p := 44) rfl ?_); refine store_event (t := 5) (p := 44) (v := ?vo_w28) (w1 := (wr.setCell ⟨go23, (x9_2 : Int).toNat, none⟩ (.int .u8 0))) ?hg ?ho ?hn ?hr ?_; (case ho => rfl); (case hg => rfl); (case hn => rfl); (case hr => first | (go_simp; done) | (go_simp; rfl)); intro w28 hw; have hg : wr.grownBy w28 (some go23) := (by rw [hw]; exact HP27.2); have hp_ : Kd.R (Kd.int .u8) 5 w28 w.heap.size (fun _ => True) (.slice (some ⟨go23, 0, none⟩) x398002_2.length co23) y399 := (by rw [hw, Ny399.out]; exact HP27.1); clear HP27; have n_ := aC (Kd.R_over' (v := (.slice (some ⟨go23, 0, none⟩) x398002_2.length co23)) (rU HO_4.out) (Kd.R_typed HO_398002.out) (by decide) hg) (aC (Kd.S_after (v := (.slice (some ⟨go23, 0, none⟩) x398002_2.length co23)) (v1 := (.slice (some ⟨go23, 0, none⟩) x398002_2.length co23)) (ok := (fun _ => True)) (by (with_reducible repeat (first | apply Kd.S_alloc | apply Kd.S_drewN | apply Kd.S_drew)); exact Kd.S_mono HO_6.out (fun _ hk => ⟨trivial, hk⟩)) hg (.inl rfl)) (aC hp_ (aC (blk_grown (bU BK386.out) hg (Kd.R_ne HO_398002.out BK386.out (by decide))) (aC (blk_grown (bU BK397.out) hg (Kd.R_ne HO_398002.out BK397.out (by decide))) (aE ((by rw [hw]; exact below_set (HB.out) GB23.out : Below w.heap.size w w28))))))); clear HO_4 HO_6 HO_398002 BK386 BK397 HB; obtain ⟨HO_4, HO_6, HO_398002, BK386, BK397, HB⟩ := n_; clear hg hw hp_))
           go_roundg k2
           case measure => have := HK1.out; have := HK2.out; omega
           case rel => exact ⟨(wrap64 (x9_2 + 1)), (y399), (.slice (some ⟨go23, 0, none⟩) x398002_2.length co23), rq, H', ⟨by have := HK1.out; have := HK2.out; omega⟩, ⟨rU HO_4.out⟩, ⟨by (with_reducible repeat (first | apply Kd.S_alloc | apply Kd.S_drewN | apply Kd.S_drew)); exact Kd.S_mono HO_6.out (fun _ hk => hk.2)⟩, ⟨rU HO_398002.out⟩, ⟨bU BK386.out⟩, ⟨bU BK397.out⟩, ⟨bl⟩⟩
          ·rw [if_neg c22] at H
           exact absurd H (by simp)
        ·rw [if_neg c19] at H
         exact absurd H (by simp)
       ·rw [if_neg c18] at H
        have c18b0 := decide_eq_false c18
        clear c18
        replace H := Option.bind_eq_some_iff.mp H
        obtain ⟨⟨t400, t401, t402, t405, t406, t407⟩, A290, H⟩ := H
        replace H : (if x6_1.length < 2513169434916 then (incunableref15_Components.l0 k2 t388 t391 (x6_1 ++ [(⟨(⟨t400, t401, t402⟩ : S24), t405, t406⟩ : S48)]) (wrap64 (x7_1 + 1)) a0_0 a0_1 l0_2) else (none)) = some (r1, r2) := H
        have A29 := Aside0.mk A290
        clear A290
        by_cases c30 : x6_1.length < 2513169434916
        ·rw [if_pos c30] at H
         have LMc30 := Aside0.mk c30
         clear c30
         obtain ⟨y409, hy_⟩ : ∃ y_ : List (S48), y_ = (x6_1 ++ [(⟨(⟨t400, t401, t402⟩ : S24), t405, t406⟩ : S48)]) := ⟨_, rfl⟩
         replace H : (incunableref15_Components.l0 k2 t388 t391 y409 (wrap64 (x7_1 + 1)) a0_0 a0_1 l0_2) = some (r1, r2) := rh
         have Ny409 := aE hy_
         clear hy_
         have H' := Aside0.mk H
         clear H
         obtain ⟨Ao31, co31, eo31⟩ := Kd.R_slice HO_4.out
         subst eo31
         have hnb32 := NB397_386.out
         have hnc32 := NB386_397.out
         obtain ⟨hcz33_0, hcz33_1, hcz33_2, hfz33_0, hfz33_1, hfz33_2⟩ := cz3f BK397.out
         obtain ⟨Ao34, co34, eo34⟩ := Kd.R_slice HO_398002.out
         subst eo34
         go_wp2_with (first | ((with_reducible refine gf 34 rfl ?_); refine gL (some 47) rfl rfl Try.func34 rfl #[.agg #[.int .i64 t392, .int .i64 t393, .slice Ao34 x398002_2.length co34]] rfl ?_; (with_reducible refine (incunableref05_Trim.calls k2 t392 t393 _ _ x398002_2 t400 t401 t402 t405 t406 t407 _ ?side1 ?side2 A29.out).mono ?_); (case side1 => exact cU (Kd.R_reads' HO_398002.out).2.2); (case side2 => exact (Kd.R_reads' HO_398002.out).2.1); rintro e w35 ⟨v403, rfl, ho0, hb⟩; refine ⟨_, rfl, ?_⟩; have n_ := aC (Kd.R_below (rU HO_4.out) hb) (aC (Kd.S_elder' (by (with_reducible repeat (first | apply Kd.S_alloc | apply Kd.S_drewN | apply Kd.S_drew)); exact HO_6.out) (Kd.R_base ho0) hb) (aC (Kd.R_elder' (rU HO_398002.out) (Kd.R_base ho0) hb) (aC (Kd.R_lower (Kd.R_new' ho0 (Kd.R_lt (rU HO_398002.out))) bz) (aC (blk_below (bU BK386.out) hb) (aC (blk_below (bU BK397.out) hb) (aE (bs hb))))))); clear HO_4 HO_6 HO_398002 BK386 BK397 HB; obtain ⟨HO_4, HO_6, HO_398002, HO404, BK386, BK397, HB⟩ := n_; (try clear hb); (try clear ho0)) | ((with_reducible refine gd 10 rfl ?_); refine bx 10 #[.int .i64 0, .int .i64 0, .slice none 0 0] 24 rfl rfl ?_; intro gb408 hg w36 hbox hb; have n_ := aC (Kd.R_below (rU HO_4.out) hb) (aC (Kd.S_below (by (with_reducible repeat (first | apply Kd.S_alloc | apply Kd.S_drewN | apply Kd.S_drew)); exact HO_6.out) hb) (aC (Kd.R_below (rU HO_398002.out) hb) (aC (Kd.R_below (rU HO404.out) hb) (aC (blk_below (bU BK386.out) hb) (aC (blk_below (bU BK397.out) hb) (aC (bs hb) (aC hbox (aC (gz hg) (aC (gz hg) (aC (gn hg (bU BK386.out)) (aC (gm hg (bU BK386.out)) (aC (gn hg (bU BK397.out)) (aE (gm hg (bU BK397.out))))))))))))))); clear HO_4 HO_6 HO_398002 HO404 BK386 BK397 HB; obtain ⟨HO_4, HO_6, HO_398002, HO404, BK386, BK397, HB, BK408, GW408, GE408, NB386_408, NB408_386, NB397_408, NB408_397⟩ := n_; clear hb hbox hg; have hnb37 := NB408_386.out; have hnc37 := NB386_408.out; have hnb38 := NB408_397.out; have hnc38 := NB397_408.out; obtain ⟨hcz39_0, hcz39_1, hcz39_2, hfz39_0, hfz39_1, hfz39_2⟩ := cz3f BK408.out; obtain ⟨Ao40, co40, eo40⟩ := Kd.R_slice HO404.out; subst eo40) | ((with_reducible refine gate_store (t := 24) (p := 10) rfl ?_); refine store_event (t := 24) (p := 10) (v := ?vo_w41) (w1 := (((w36.setCell ⟨gb408, 0, none⟩ (.int .i64 t400)).setCell ⟨gb408, 1, none⟩ (.int .i64 t401)).setCell ⟨gb408, 2, none⟩ (.slice Ao40 t402.length co40))) ?hg ?ho ?hn ?hr ?_; (case ho => rfl); (case hg => rfl); (case hn => rfl); (case hr => first | (go_simp; done) | (go_simp; rfl)); intro w41 hw; have n_ := aC (show Kd.R (Kd.int .i64) 3 w41 w.heap.size (fun _ => True) (.slice Ao31 t388.length co31) t388 from (by rw [hw]; exact (rU (Kd.R_mono (Kd.R_far (p := ⟨gb408, 2, none⟩) (Kd.R_far (p := ⟨gb408, 1, none⟩) (Kd.R_far (p := ⟨gb408, 0, none⟩) (Kd.R_types HO_4.out BK408.out (by decide)) (fun _ hk => hk.2) (.int .i64 t400)) (fun _ hk => hk.2) (.int .i64 t401)) (fun _ hk => hk.2) (.slice Ao40 t402.length co40)) (fun _ hk => trivial))))) (aC (show Kd.S k48 48 w41 w.heap.size (fun k_ => some k_ ≠ (.slice Ao34 x398002_2.length co34 : Value).ownBlock ∧ some k_ ≠ (.slice Ao40 t402.length co40 : Value).ownBlock) u6 x6_1 from (by rw [hw]; exact (by (with_reducible repeat (first | apply Kd.S_alloc | apply Kd.S_drewN | apply Kd.S_drew)); exact Kd.S_mono (Kd.S_far (p := ⟨gb408, 2, none⟩) (Kd.S_far (p := ⟨gb408, 1, none⟩) (Kd.S_far (p := ⟨gb408, 0, none⟩) (Kd.S_types HO_6.out BK408.out (by decide)) (fun _ hk => hk.2) (.int .i64 t400)) (fun _ hk => hk.2) (.int .i64 t401)) (fun _ hk => hk.2) (.slice Ao40 t402.length co40)) (fun _ hk => ⟨hk.1.1, hk.1.2⟩)))) (aC (show Kd.R (Kd.int .u8) 5 w41 w.heap.size (fun k_ => some k_ ≠ (.slice Ao40 t402.length co40 : Value).ownBlock) (.slice Ao34 x398002_2.length co34) x398002_2 from (by rw [hw]; exact (rU (Kd.R_mono (Kd.R_far (p := ⟨gb408, 2, none⟩) (Kd.R_far (p := ⟨gb408, 1, none⟩) (Kd.R_far (p := ⟨gb408, 0, none⟩) (Kd.R_types HO_398002.out BK408.out (by decide)) (fun _ hk => hk.2) (.int .i64 t400)) (fun _ hk => hk.2) (.int .i64 t401)) (fun _ hk => hk.2) (.slice Ao40 t402.length co40)) (fun _ hk => hk.1.2))))) (aC (show Kd.R (Kd.int .u8) 5 w41 w.heap.size (fun k_ => some k_ ≠ (.slice Ao34 x398002_2.length co34 : Value).ownBlock) (.slice Ao40 t402.length co40) t402 from (by rw [hw]; exact (rU (Kd.R_mono (Kd.R_far (p := ⟨gb408, 2, none⟩) (Kd.R_far (p := ⟨gb408, 1, none⟩) (Kd.R_far (p := ⟨gb408, 0, none⟩) (Kd.R_types HO404.out BK408.out (by decide)) (fun _ hk => hk.2) (.int .i64 t400)) (fun _ hk => hk.2) (.int .i64 t401)) (fun _ hk => hk.2) (.slice Ao40 t402.length co40)) (fun _ hk => hk.1.2))))) (aC (show w41.heap[gb386]? = some (.cells #[.int .i64 a0_0, .int .i64 a0_1, .slice A0_2 l0_2.length c0_2] 24 (0, 0)) from (by rw [hw]; exact (by (with_reducible repeat (first | refine blk_drewN ?_ _ | refine blk_drew ?_ | refine blk_alloc ?_ _)); refine blk_far ?_ NB386_408.out _; (with_reducible repeat (first | refine blk_drewN ?_ _ | refine blk_drew ?_ | refine blk_alloc ?_ _)); refine blk_far ?_ NB386_408.out _; (with_reducible repeat (first | refine blk_drewN ?_ _ | refine blk_drew ?_ | refine blk_alloc ?_ _)); refine blk_far ?_ NB386_408.out _; (with_reducible repeat (first | refine blk_drewN ?_ _ | refine blk_drew ?_ | refine blk_alloc ?_ _)); exact BK386.out))) (aC (show w41.heap[gb397]? = some (.cells #[.int .i64 t392, .int .i64 t393, .slice Ao34 x398002_2.length co34] 24 (0, 0)) from (by rw [hw]; exact (by (with_reducible repeat (first | refine blk_drewN ?_ _ | refine blk_drew ?_ | refine blk_alloc ?_ _)); refine blk_far ?_ NB397_408.out _; (with_reducible repeat (first | refine blk_drewN ?_ _ | refine blk_drew ?_ | refine blk_alloc ?_ _)); refine blk_far ?_ NB397_408.out _; (with_reducible repeat (first | refine blk_drewN ?_ _ | refine blk_drew ?_ | refine blk_alloc ?_ _)); refine blk_far ?_ NB397_408.out _; (with_reducible repeat (first | refine blk_drewN ?_ _ | refine blk_drew ?_ | refine blk_alloc ?_ _)); exact BK397.out))) (aC (show w41.heap[gb408]? = some (.cells #[.int .i64 t400, .int .i64 t401, .slice Ao40 t402.length co40] 24 (0, 0)) from (by rw [hw]; exact (by (with_reducible repeat (first | refine blk_drewN ?_ _ | refine blk_drew ?_ | refine blk_alloc ?_ _)); refine blk_put (cs := #[.int .i64 t400, .int .i64 t401, .slice none 0 0]) ?_ 2 _ rfl; (with_reducible repeat (first | refine blk_drewN ?_ _ | refine blk_drew ?_ | refine blk_alloc ?_ _)); refine blk_put (cs := #[.int .i64 t400, .int .i64 0, .slice none 0 0]) ?_ 1 _ rfl; (with_reducible repeat (first | refine blk_drewN ?_ _ | refine blk_drew ?_ | refine blk_alloc ?_ _)); refine blk_put (cs := #[.int .i64 0, .int .i64 0, .slice none 0 0]) ?_ 0 _ rfl; (with_reducible repeat (first | refine blk_drewN ?_ _ | refine blk_drew ?_ | refine blk_alloc ?_ _)); exact BK408.out))) (aE (show Below w.heap.size w w41 from (by rw [hw]; exact bl))))))))); clear hw HO_4 HO_6 HO_398002 HO404 BK386 BK397 BK408 HB; obtain ⟨HO_4, HO_6, HO_398002, HO404, BK386, BK397, BK408, HB⟩ := n_; obtain ⟨hcz42_0, hcz42_1, hcz42_2, hfz42_0, hfz42_1, hfz42_2⟩ := cz3f BK408.out) | ((with_reducible refine gate_builtin (b := .append) (xs := #[.tmp 52, .tmp 57]) rfl ?_); at_builtin; refine Kd.S_append k48 (w0 := w) w.heap.size rfl (.tmp 52) (.tmp 57) 40 48 (.agg #[(.int .i64 0), (.int .i64 0), (.slice none 0 0), (.int .i64 0), (.int .i64 0)]) 56 rfl Try.underlying40 info48 rfl (by decide) (by omega) u6 x6_1 (⟨(⟨t400, t401, t402⟩ : S24), t405, t406⟩ : S48) [.int .i64 t400, .int .i64 t401, .slice Ao40 t402.length co40, .int .i64 t405, .int .i64 t406] (fun k_ => some k_ ≠ (.slice Ao34 x398002_2.length co34 : Value).ownBlock) (fun k_ => some k_ = (.slice Ao40 t402.length co40 : Value).ownBlock) rfl rfl ?aP (fun k_ hk_ => ((Kd.R_mono (ok' := fun k_ => ((fun k_ => some k_ ≠ (.slice Ao34 x398002_2.length co34 : Value).ownBlock)) k_ ∧ some k_ ≠ (u6 : Value).ownBlock) (Kd.R_apart' (HO404.out) (Kd.S_typed HO_6.out) (by decide)) (fun k_ hk => ⟨hk.1, hk.2⟩))).1 k_ hk_.symm) ?aF ?aO ?aB ?aS ?aL ?_; (case aP => exact k48_mkM _ _ _ (⟨(⟨t400, t401, t402⟩ : S24), t405, t406⟩ : S48) (Kd.R_mono (Kd.R_tight rfl (Kd.R_mono (ok' := fun k_ => ((fun k_ => some k_ ≠ (.slice Ao34 x398002_2.length co34 : Value).ownBlock)) k_ ∧ some k_ ≠ (u6 : Value).ownBlock) (Kd.R_apart' (HO404.out) (Kd.S_typed HO_6.out) (by decide)) (fun k_ hk => ⟨hk.1, hk.2⟩))) (fun _ h_ => h_))); (case aB => exact bl); (case aF => exact (fun k_ hk => Kd.fresh' (Kd.R_lt (rU HO_398002.out)) k_ hk)); (case aO => exact (by (with_reducible repeat (first | apply Kd.S_alloc | apply Kd.S_drewN | apply Kd.S_drew)); exact Kd.S_mono HO_6.out (fun k_ hk => ⟨hk.1, fun e_ => hk.2 e_⟩))); (case aS => exact bz); (case aL => have := LMc30.out; omega); intro v410 w43 ho hb hg hat; rw [← Ny409.out] at ho; have n_ := aC (Kd.R_over' (rU HO_4.out) (Kd.S_typed (by (with_reducible repeat (first | apply Kd.S_alloc | apply Kd.S_drewN | apply Kd.S_drew)); exact HO_6.out)) (by decide) hg) (aC (Kd.R_over' (rU HO_398002.out) (Kd.S_typed (by (with_reducible repeat (first | apply Kd.S_alloc | apply Kd.S_drewN | apply Kd.S_drew)); exact HO_6.out)) (by decide) hg) (aC (blk_grown (bU BK386.out) hg (Kd.S_ne HO_6.out BK386.out (by decide))) (aC (blk_grown (bU BK397.out) hg (Kd.S_ne HO_6.out BK397.out (by decide))) (aC (blk_grown (bU BK408.out) hg (Kd.S_ne HO_6.out BK408.out (by decide))) (aC hb (aE ho)))))); clear HO_4 HO_398002 BK386 BK397 BK408 HB HO_6 HO404; obtain ⟨HO_4, HO_398002, BK386, BK397, BK408, HB, HO411⟩ := n_; clear ho hb hg hat))
         go_roundg k2
         case measure => have := HK1.out; have := HK2.out; omega
         case rel => exact ⟨(y409), (wrap64 (x7_1 + 1)), rq, H', ⟨by have := HK1.out; have := HK2.out; omega⟩, ⟨rU HO_4.out⟩, ⟨by (with_reducible repeat (first | apply Kd.S_alloc | apply Kd.S_drewN | apply Kd.S_drew)); exact Kd.S_mono HO411.out (fun _ hk => trivial)⟩, ⟨bU BK386.out⟩, ⟨bl⟩⟩
        ·rw [if_neg c30] at H
         exact absurd H (by simp)
    ·rw [if_neg c10] at H
     have c10b0 := decide_eq_false c10
     clear c10
     simp only [Option.some.injEq, Prod.mk.injEq] at H
     obtain ⟨rfl, rfl⟩ := H
     go_wp2
     go_ret2
     exact ⟨_, re, by (with_reducible repeat (first | apply Kd.S_alloc | apply Kd.S_drewN | apply Kd.S_drew)); exact HO_6.out, bl⟩
 ·replace c3 := Bool.eq_false_iff.mpr c3
  subst c3
  have H1 : (some (([] : List (S48)), 30)) = some (r1, r2) := by rw [if_neg (show ¬ (false = true) by decide)] at H; exact H
  clear H
  have H := H1
  clear H1
  simp only [Option.some.injEq, Prod.mk.injEq] at H
  obtain ⟨rfl, rfl⟩ := H
  go_enter Try.func22, Try.ntmps22
  go_wp2_with (first | ((with_reducible refine gd 1 rfl ?_); refine bx 1 #[.int .i64 a0_0, .int .i64 a0_1, .slice A0_2 l0_2.length c0_2] 24 rfl rfl ?_; intro gb386 hg w44 hbox hb; have n_ := aC (bs hb) (aC hbox (aC (gz hg) (aE (gz hg)))); clear HB; obtain ⟨HB, BK386, GW386, GE386⟩ := n_; clear hb hbox hg; obtain ⟨hcz45_0, hcz45_1, hcz45_2, hfz45_0, hfz45_1, hfz45_2⟩ := cz3f BK386.out) | ((with_reducible refine gf 33 rfl ?_); refine gL (some 15) rfl rfl Try.func33 rfl #[.agg #[.int .i64 a0_0, .int .i64 a0_1, .slice A0_2 l0_2.length c0_2]] rfl ?_; (with_reducible refine (incunableref05_Valid.calls k a0_0 a0_1 _ _ l0_2 false _ ?side1 ?side2 A2.out).mono ?_); (case side1 => exact cU (Kd.C_below HR0_2.out HB.out)); (case side2 => exact HC0_2.out); rintro e w46 ⟨rfl, hb⟩; refine ⟨_, rfl, ?_⟩; have n_ := aC (blk_below (bU BK386.out) hb) (aE (bs hb)); clear BK386 HB; obtain ⟨BK386, HB⟩ := n_; (try clear hb)))
  go_ret2
  exact ⟨_, re, by first | exact Kd.S_nil _ _ _ _ _ | exact Kd.N_nil _ _ _ _ _ | exact Kd.V_nil _ _ _ _ _ | exact Kd.Q_nil _ _ _ _ _ | exact Kd.R_nil _ _ _ _ _, bl⟩

end Go.Proofs.Ytaflekobfbgedaa.PShapePieces
