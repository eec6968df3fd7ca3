-- Written by a program of this session (wip/tools/myprint.py) over the kit's print. Not trusted: Lean checks it.
import Derived.Test.YtknclbodinfbeaaDoorPRunsRowx0
import Derived.Test.YtknclbodinfbeaaDoorPRunsRowx4
import Derived.Test.YtknclbodinfbeaaDoorPRunsRowx7
namespace Go.Proofs.YtknclbodinfbeaaDoor.PRunsRow
open Go.RowKit Go.Proofs.YtknclbodinfbeaaDoorW.PrintWords Go.Proofs.YtknclbodinfbeaaDoorW.PrintLast Go.Proofs.YtknclbodinfbeaaDoorW.PrintMore
attribute [local go_sem] max2_int min2_int max_two min_two max_three min_three max_four min_four   -- for this text's walks alone
set_option linter.unusedVariables false
set_option linter.unusedSimpArgs false

/-! ### runs_FromRow: function 19 -/
mutual
def runs_FromRow.j0 : Nat → List Int → Int → Bool → Option (List Int × Int)
 | 0, _, _, _ => none
 | k + 1, x0, x1, x14 => if x14 = true then (some (([] : List Int), 2)) else (runs_FromRow.l0 k x1 ([] : List Int) x0 (x0.length : Int) 0)
def runs_FromRow.l0 : Nat → Int → List Int → List Int → Int → Int → Option (List Int × Int)
 | 0, _, _, _, _, _ => none
 | k + 1, x1, x6, x15, x16, x17 => if x17 < x16 then (if 0 ≤ x17 then (if x17 < (x15.length : Int) then (if (rd x15 x17) < 0 then (some (([] : List Int), 3)) else (if (rd x15 x17) = 0 then (if x17 > 0 then (some (([] : List Int), 3)) else (if (rd x15 x17) > (wrap64 (x1 - (x6.length : Int))) then (some (([] : List Int), 3)) else (if (x6.length : Int) = x1 then (some (([] : List Int), 3)) else ((slices_Repeat_byte_byte.f k (([(Int.tmod x17 2) % 256] : List Int)) (rd x15 x17)).bind fun t293 => (if x6.length + t293.length < 140737488355328 then (runs_FromRow.l0 k x1 (x6 ++ t293) x15 x16 (wrap64 (x17 + 1))) else (none)))))) else (if (rd x15 x17) > (wrap64 (x1 - (x6.length : Int))) then (some (([] : List Int), 3)) else (if (x6.length : Int) = x1 then (some (([] : List Int), 3)) else ((slices_Repeat_byte_byte.f k (([(Int.tmod x17 2) % 256] : List Int)) (rd x15 x17)).bind fun t302 => (if x6.length + t302.length < 140737488355328 then (runs_FromRow.l0 k x1 (x6 ++ t302) x15 x16 (wrap64 (x17 + 1))) else (none))))))) else (none)) else (none)) else (if (x6.length : Int) = x1 then (some (x6, 0)) else (some (([] : List Int), 3)))
end
def runs_FromRow.f (k : Nat) (l0 : List Int) (a1 : Int) : Option (List Int × Int) := if a1 < 0 then (runs_FromRow.j0 k l0 a1 true) else (runs_FromRow.j0 k l0 a1 (decide (a1 > 200)))
theorem runs_FromRow.mono_l : ∀ k, (∀ y0 y1 y2, LeO (runs_FromRow.j0 k y0 y1 y2) (runs_FromRow.j0 (k + 1) y0 y1 y2)) ∧ (∀ y0 y1 y2 y3 y4, LeO (runs_FromRow.l0 k y0 y1 y2 y3 y4) (runs_FromRow.l0 (k + 1) y0 y1 y2 y3 y4))
 | 0 => ⟨fun _ _ _ r h => by simp [runs_FromRow.j0] at h, fun _ _ _ _ _ r h => by simp [runs_FromRow.l0] at h⟩
 | k + 1 => by
  obtain ⟨ih0, ih1⟩ := runs_FromRow.mono_l k
  refine ⟨?_, ?_⟩
  ·intro y0 y1 y2
   unfold runs_FromRow.j0
   repeat' first
   | (with_reducible exact ih0 _ _ _)
   | (with_reducible exact ih1 _ _ _ _ _)
   | (with_reducible exact slices_Repeat_byte_byte.mono _ _ _)
   | (with_reducible first | exact LeO.refl _ | exact LeO.none _ | refine LeO.ite ?_ ?_ | refine LeO.bind ?_ (fun _ => ?_))
   | exact ih0 _ _ _
   | exact ih1 _ _ _ _ _
   | exact slices_Repeat_byte_byte.mono _ _ _
   | exact LeO.none _ | refine LeO.ite ?_ ?_ | refine LeO.bind ?_ (fun _ => ?_)
  ·intro y0 y1 y2 y3 y4
   unfold runs_FromRow.l0
   repeat' first
   | (with_reducible exact ih0 _ _ _)
   | (with_reducible exact ih1 _ _ _ _ _)
   | (with_reducible exact slices_Repeat_byte_byte.mono _ _ _)
   | (with_reducible first | exact LeO.refl _ | exact LeO.none _ | refine LeO.ite ?_ ?_ | refine LeO.bind ?_ (fun _ => ?_))
   | exact ih0 _ _ _
   | exact ih1 _ _ _ _ _
   | exact slices_Repeat_byte_byte.mono _ _ _
   | exact LeO.none _ | refine LeO.ite ?_ ?_ | refine LeO.bind ?_ (fun _ => ?_)
theorem runs_FromRow.mono : ∀ a0 a1 k, LeO (runs_FromRow.f k a0 a1) (runs_FromRow.f (k + 1) a0 a1) := by
 intro a0 a1 k
 obtain ⟨ih0, ih1⟩ := runs_FromRow.mono_l k
 unfold runs_FromRow.f
 repeat' first
   | (with_reducible exact ih0 _ _ _)
   | (with_reducible exact ih1 _ _ _ _ _)
   | (with_reducible exact slices_Repeat_byte_byte.mono _ _ _)
   | (with_reducible first | exact LeO.refl _ | exact LeO.none _ | refine LeO.ite ?_ ?_ | refine LeO.bind ?_ (fun _ => ?_))
   | exact ih0 _ _ _
   | exact ih1 _ _ _ _ _
   | exact slices_Repeat_byte_byte.mono _ _ _
   | exact LeO.none _ | refine LeO.ite ?_ ?_ | refine LeO.bind ?_ (fun _ => ?_)
set_option maxHeartbeats 8000000 in
set_option maxRecDepth 100000 in
theorem runs_FromRow.calls (k : Nat) (A0 : Option Addr) (c0 : Nat) (l0 : List Int) (a1 : Int) (r1 : List Int) (r2 : Int) (w : World) (hr0 : Kd.C (Kd.int .i64) w A0 l0.length l0) (hc0 : l0.length ≤ c0) (h : runs_FromRow.f k l0 a1 = some (r1, r2)) :
  Calls Tryd.prog 19 #[.slice A0 l0.length c0, .int .i64 a1] w fun e w' => ∃ v0_ : Value, e = .returned (.tuple #[v0_, .int .i64 r2]) ∧ Kd.R (Kd.int .u8) 5 w' w.heap.size (fun _ => True) v0_ r1 ∧ Below w.heap.size w w' := by
 have HR0 := Aside0.mk hr0
 have HC0 := Aside0.mk hc0
 clear hr0 hc0
 have HB := Aside0.mk (Below.refl w.heap.size w)
 have H : (if a1 < 0 then (runs_FromRow.j0 k l0 a1 true) else (runs_FromRow.j0 k l0 a1 (decide (a1 > 200)))) = some (r1, r2) := h
 clear h
 have HC3 := Aside0.mk H
 clear H
 go_enter Tryd.func19, Tryd.ntmps19
 go_upto_region 1 with (fail)
 go_cut [14] (fun v14 wc => ∃ (kq : Nat) (x14_2 : Bool), v14 = .bool x14_2 ∧ Aside0 (runs_FromRow.j0 kq l0 a1 x14_2 = some (r1, r2)) ∧ Aside0 (kq ≤ k) ∧ Aside0 (Below w.heap.size w wc))
 case first =>
  have H := HC3.out
  clear HC3
  by_cases c4 : a1 < 0
  ·rw [if_pos c4] at H
   have c4b0 := decide_eq_true c4
   clear c4
   (first | rw [c4b0] | (simp only [i64_w, i32_w]; rw [c4b0]) | skip)
   have H' := Aside0.mk H
   clear H
   go_wp2
   go_meet
   case rel => exact ⟨_, (true), rq, H', ⟨by first | omega | exact Nat.le_refl _⟩, ⟨bl⟩⟩
  ·rw [if_neg c4] at H
   have c4b0 := decide_eq_false c4
   clear c4
   (first | rw [c4b0] | (simp only [i64_w, i32_w]; rw [c4b0]) | skip)
   have H' := Aside0.mk H
   clear H
   go_wp2
   go_meet
   case rel => exact ⟨_, (decide (a1 > 200)), rq, H', ⟨by first | omega | exact Nat.le_refl _⟩, ⟨bl⟩⟩
 case rest =>
  clear HC3
  obtain ⟨kq, x14_2, rfl, HA, HJ2, HB⟩ := hcut
  cases kq with
  | zero => exact absurd HA.out (by simp [runs_FromRow.j0])
  | succ kj2 =>
   have H := HA.out
   clear HA
   simp only [runs_FromRow.j0] at H
   by_cases c5 : x14_2 = true
   ·subst c5
    have H1 : (some (([] : List Int), 2)) = some (r1, r2) := by rw [if_pos rfl] at H; exact H
    clear H
    have H := H1
    clear H1
    simp only [Option.some.injEq, Prod.mk.injEq] at H
    obtain ⟨rfl, rfl⟩ := H
    go_wp2
    go_ret2
    exact ⟨_, re, by first | exact Kd.R_nil _ _ _ _ _ | exact Kd.N_nil _ _ _ _ _ | exact Kd.V_nil _ _ _ _ _ | exact Kd.Q_nil _ _ _ _ _ | exact Kd.S_nil _ _ _ _ _, bl⟩
   ·replace c5 := Bool.eq_false_iff.mpr c5
    subst c5
    have H1 : (runs_FromRow.l0 kj2 a1 ([] : List Int) l0 (l0.length : Int) 0) = some (r1, r2) := by rw [if_neg (show ¬ (false = true) by decide)] at H; exact H
    clear H
    have H := H1
    clear H1
    have H' := Aside0.mk H
    clear H
    go_wp2
    go_loopg [6, 17] kj2 (fun kq v6 v17 w' => ∃ (x6_2 : List Int) (x17_2 : Int), v17 = .int .i64 x17_2 ∧ Aside0 (runs_FromRow.l0 kq a1 x6_2 l0 (l0.length : Int) x17_2 = some (r1, r2)) ∧ Aside0 (kq ≤ kj2) ∧ Aside0 (Kd.R (Kd.int .u8) 5 w' w.heap.size (fun _ => True) v6 x6_2) ∧ Aside0 (Below w.heap.size w w'))
    case atStart => exact ⟨(([] : List Int)), (0), rq, H', ⟨Nat.le_refl _⟩, ⟨by first | exact Kd.R_nil _ _ _ _ _ | exact Kd.N_nil _ _ _ _ _ | exact Kd.V_nil _ _ _ _ _ | exact Kd.Q_nil _ _ _ _ _ | exact Kd.S_nil _ _ _ _ _⟩, ⟨bl⟩⟩
    case round =>
     clear H'
     obtain ⟨x6_2, x17_2, rfl, HA, HK2, HO_6, HB⟩ := hrel
     cases gk with
     | zero => exact absurd HA.out (by simp [runs_FromRow.l0])
     | succ k2 =>
      have H := HA.out
      clear HA
      simp only [runs_FromRow.l0] at H
      by_cases c6 : x17_2 < (l0.length : Int)
      ·rw [if_pos c6] at H
       have c6b0 := decide_eq_true c6
       clear c6
       by_cases c7 : 0 ≤ x17_2
       ·rw [if_pos c7] at H
        have c7b0 := decide_eq_true c7
        clear c7
        by_cases c8 : x17_2 < (l0.length : Int)
        ·rw [if_pos c8] at H
         have c8b0 := decide_eq_true c8
         clear c8
         by_cases c9 : (rd l0 x17_2) < 0
         ·rw [if_pos c9] at H
          have c9b0 := decide_eq_true c9
          clear c9
          simp only [Option.some.injEq, Prod.mk.injEq] at H
          obtain ⟨rfl, rfl⟩ := H
          have p289 : 0 ≤ (x17_2 : Int) := dt
          have q289 : x17_2 < (l0.length : Int) := dt
          obtain ⟨ad289, e289, hx289_0⟩ := Kd.at_int HR0.out x17_2 p289 q289
          cases e289
          replace hx289_0 := hcB HB.out hx289_0
          replace p289 := eq_true p289
          replace q289 := eq_true q289
          go_wp2
          go_ret2
          exact ⟨_, re, by first | exact Kd.R_nil _ _ _ _ _ | exact Kd.N_nil _ _ _ _ _ | exact Kd.V_nil _ _ _ _ _ | exact Kd.Q_nil _ _ _ _ _ | exact Kd.S_nil _ _ _ _ _, bl⟩
         ·rw [if_neg c9] at H
          have c9b0 := decide_eq_false c9
          clear c9
          by_cases c10 : (rd l0 x17_2) = 0
          ·rw [if_pos c10] at H
           have c10b0 := beq_iff_eq.mpr c10
           have c10b1 := bne_eq_false_iff_eq.mpr c10
           clear c10
           by_cases c11 : x17_2 > 0
           ·rw [if_pos c11] at H
            have c11b0 := decide_eq_true c11
            clear c11
            simp only [Option.some.injEq, Prod.mk.injEq] at H
            obtain ⟨rfl, rfl⟩ := H
            have p289 : 0 ≤ (x17_2 : Int) := dt
            have q289 : x17_2 < (l0.length : Int) := dt
            obtain ⟨ad289, e289, hx289_0⟩ := Kd.at_int HR0.out x17_2 p289 q289
            cases e289
            replace hx289_0 := hcB HB.out hx289_0
            replace p289 := eq_true p289
            replace q289 := eq_true q289
            go_wp2
            go_ret2
            exact ⟨_, re, by first | exact Kd.R_nil _ _ _ _ _ | exact Kd.N_nil _ _ _ _ _ | exact Kd.V_nil _ _ _ _ _ | exact Kd.Q_nil _ _ _ _ _ | exact Kd.S_nil _ _ _ _ _, bl⟩
           ·rw [if_neg c11] at H
            have c11b0 := decide_eq_false c11
            clear c11
            by_cases c12 : (rd l0 x17_2) > (wrap64 (a1 - (x6_2.length : Int)))
            ·rw [if_pos c12] at H
             have c12b0 := decide_eq_true c12
             clear c12
             simp only [Option.some.injEq, Prod.mk.injEq] at H
             obtain ⟨rfl, rfl⟩ := H
             have p289 : 0 ≤ (x17_2 : Int) := dt
             have q289 : x17_2 < (l0.length : Int) := dt
             obtain ⟨ad289, e289, hx289_0⟩ := Kd.at_int HR0.out x17_2 p289 q289
             cases e289
             replace hx289_0 := hcB HB.out hx289_0
             replace p289 := eq_true p289
             replace q289 := eq_true q289
             obtain ⟨Ao13, co13, eo13⟩ := Kd.R_slice HO_6.out
             subst eo13
             go_wp2
             go_ret2
             exact ⟨_, re, by first | exact Kd.R_nil _ _ _ _ _ | exact Kd.N_nil _ _ _ _ _ | exact Kd.V_nil _ _ _ _ _ | exact Kd.Q_nil _ _ _ _ _ | exact Kd.S_nil _ _ _ _ _, bl⟩
            ·rw [if_neg c12] at H
             have c12b0 := decide_eq_false c12
             clear c12
             by_cases c14 : (x6_2.length : Int) = a1
             ·rw [if_pos c14] at H
              have c14b0 := beq_iff_eq.mpr c14
              have c14b1 := bne_eq_false_iff_eq.mpr c14
              clear c14
              simp only [Option.some.injEq, Prod.mk.injEq] at H
              obtain ⟨rfl, rfl⟩ := H
              have p289 : 0 ≤ (x17_2 : Int) := dt
              have q289 : x17_2 < (l0.length : Int) := dt
              obtain ⟨ad289, e289, hx289_0⟩ := Kd.at_int HR0.out x17_2 p289 q289
              cases e289
              replace hx289_0 := hcB HB.out hx289_0
              replace p289 := eq_true p289
              replace q289 := eq_true q289
              obtain ⟨Ao15, co15, eo15⟩ := Kd.R_slice HO_6.out
              subst eo15
              go_wp2
              go_ret2
              exact ⟨_, re, by first | exact Kd.R_nil _ _ _ _ _ | exact Kd.N_nil _ _ _ _ _ | exact Kd.V_nil _ _ _ _ _ | exact Kd.Q_nil _ _ _ _ _ | exact Kd.S_nil _ _ _ _ _, bl⟩
             ·rw [if_neg c14] at H
              have c14b0 := beq_eq_false_iff_ne.mpr c14
              have c14b1 := bne_iff_ne.mpr c14
              obtain ⟨y290, hy_⟩ : ∃ y_ : List Int, y_ = (([(Int.tmod x17_2 2) % 256] : List Int)) := ⟨_, rfl⟩
              replace H : ((slices_Repeat_byte_byte.f k2 y290 (rd l0 x17_2)).bind fun t293 => (if x6_2.length + t293.length < 140737488355328 then (runs_FromRow.l0 k2 a1 (x6_2 ++ t293) l0 (l0.length : Int) (wrap64 (x17_2 + 1))) else (none))) = some (r1, r2) := rh
              have Ny290 := aE hy_
              clear hy_
              replace H := Option.bind_eq_some_iff.mp H
              obtain ⟨t293, A160, H⟩ := H
              replace H : (if x6_2.length + t293.length < 140737488355328 then (runs_FromRow.l0 k2 a1 (x6_2 ++ t293) l0 (l0.length : Int) (wrap64 (x17_2 + 1))) else (none)) = some (r1, r2) := H
              have A16 := Aside0.mk A160
              clear A160
              by_cases c17 : x6_2.length + t293.length < 140737488355328
              ·rw [if_pos c17] at H
               have LMc17 := Aside0.mk c17
               clear c17
               obtain ⟨y296, hy_⟩ : ∃ y_ : List Int, y_ = (x6_2 ++ t293) := ⟨_, rfl⟩
               replace H : (runs_FromRow.l0 k2 a1 y296 l0 (l0.length : Int) (wrap64 (x17_2 + 1))) = some (r1, r2) := rh
               have Ny296 := aE hy_
               clear hy_
               have H' := Aside0.mk H
               clear H
               have p289 : 0 ≤ (x17_2 : Int) := dt
               have q289 : x17_2 < (l0.length : Int) := dt
               obtain ⟨ad289, e289, hx289_0⟩ := Kd.at_int HR0.out x17_2 p289 q289
               cases e289
               replace hx289_0 := hcB HB.out hx289_0
               replace p289 := eq_true p289
               replace q289 := eq_true q289
               obtain ⟨Ao18, co18, eo18⟩ := Kd.R_slice HO_6.out
               subst eo18
               go_wp2_with (first | ((with_reducible refine gd 50 rfl ?_); (try (refine gate_guard (by rfl) ?_; dsimp only)); refine Kd.R_lit (Kd.int .u8) _ 5 ?hg (N := 50) ?hd (xs := ([(Int.tmod x17_2 2) % 256] : List Int)) (inner := [.int .u8 ((Int.tmod x17_2 2) % 256)]) (ok := fun _ => True) (okp := fun _ => True) ?hr ?hp (fun _ hk => hk) trivial (Below.refl _ _) (Nat.le_refl _) (by simp) ?_; (case hd => rfl); (case hg => rfl); (case hr => first | (go_simp; done) | (go_simp; rfl)); (case hp => exact (Reps.one (show Kd.M (Kd.int .u8) _ _ _ ((Int.tmod x17_2 2) % 256) [.int .u8 ((Int.tmod x17_2 2) % 256)] from rfl) (Reps.none _ _))); intro v291 w19 ho20 hb hg_ hnew_; clear hg_ hnew_; (first | rw [← Ny290.out] at ho20 | (simp only [Int.reduceToNat] at ho20; rw [← Ny290.out] at ho20)); have n_ := aC (Kd.R_elder' (rU HO_6.out) (Kd.R_base ho20) hb) (aC (Kd.R_lower (Kd.R_new' ho20 (Kd.R_lt (rU HO_6.out))) bz) (aE (bs hb))); clear HO_6 HB; obtain ⟨HO_6, HO292, HB⟩ := n_; clear hb ho20; obtain ⟨Ao21, co21, eo21⟩ := Kd.R_slice HO292.out; subst eo21) | ((with_reducible refine gf 45 rfl ?_); refine gL (some 52) rfl rfl Tryd.func45 rfl #[.slice Ao21 y290.length co21, .int .i64 (rd l0 x17_2)] rfl ?_; (with_reducible refine (slices_Repeat_byte_byte.calls k2 _ _ y290 (rd l0 x17_2) t293 _ ?side1 ?side2 A16.out).mono ?_); (case side1 => exact cU (Kd.R_reads' HO292.out).2.2); (case side2 => exact (Kd.R_reads' HO292.out).2.1); rintro e w22 ⟨v294, rfl, ho0, hb⟩; refine ⟨_, rfl, ?_⟩; have n_ := aC (Kd.R_elder' (rU HO_6.out) (Kd.R_base ho0) hb) (aC (Kd.R_elder' (rU HO292.out) (Kd.R_base ho0) hb) (aC (Kd.R_lower (Kd.R_new' (Kd.R_new' ho0 (Kd.R_lt (rU HO_6.out))) (Kd.R_lt (rU HO292.out))) bz) (aE (bs hb)))); clear HO_6 HO292 HB; obtain ⟨HO_6, HO292, HO295, HB⟩ := n_; (try clear hb); (try clear ho0); obtain ⟨Ao24, co24, eo24⟩ := Kd.R_slice HO295.out; subst eo24) | ((with_reducible refine gate_builtin (b := .append) (xs := #[.tmp 46, .tmp 52]) rfl ?_); (try (refine gate_guard (by rfl) ?_; dsimp only)); at_builtin; refine Kd.R_append_rows (Kd.int .u8) (w0 := w) w.heap.size rfl (.tmp 46) (.tmp 52) 22 5 (.int .u8 0) 1 rfl Tryd.underlying22 info5 rfl (by decide) (by omega) (.slice Ao18 x6_2.length co18) x6_2 t293 _ _ _ (fun k_ => some k_ ≠ (.slice Ao21 y290.length co21 : Value).ownBlock ∧ some k_ ≠ (.slice Ao24 t293.length co24 : Value).ownBlock) (fun _ => False) rfl rfl ?aO ?aR (fun _ _ h => h) (fun _ h => h.elim) ?aF ?aB ?aS ?aL ?_; (case aR => repeat (first | exact (Kd.R_reads' HO295.out).2.2 | (with_reducible refine Kd.C_alloc ?_ _) | (with_reducible refine Kd.C_drewN ?_ _) | (with_reducible refine Kd.C_drew ?_))); (case aB => exact bl); (case aF => exact (fun k_ hk => ⟨Kd.fresh' (Kd.R_lt (rU HO292.out)) k_ hk, Kd.fresh' (Kd.R_lt (rU HO295.out)) k_ hk⟩)); (case aO => exact (rU (Kd.R_mono HO_6.out (fun _ hk => ⟨hk.1.2, hk.2⟩)))); (case aS => exact bz); (case aL => have := LMc17.out; omega); intro v297 w23 ho hb hg hat; rw [← Ny296.out] at ho; have n_ := aC (Kd.R_after (ok := (fun k_ => some k_ ≠ (.slice Ao24 t293.length co24 : Value).ownBlock)) (rU (Kd.R_mono HO292.out (fun _ hk => ⟨hk.2, hk.1.2⟩))) hg hat) (aC (Kd.R_after (ok := (fun k_ => some k_ ≠ (.slice Ao21 y290.length co21 : Value).ownBlock)) (rU (Kd.R_mono HO295.out (fun _ hk => ⟨hk.2, hk.1.2⟩))) hg hat) (aC hb (aE ho))); clear HO292 HO295 HB HO_6; obtain ⟨HO292, HO295, HB, HO298⟩ := n_; clear ho hb hg hat))
               go_roundg k2
               case measure => have := HJ2.out; have := HK2.out; omega
               case rel => exact ⟨(y296), (wrap64 (x17_2 + 1)), rq, H', ⟨by have := HJ2.out; have := HK2.out; omega⟩, ⟨rU (Kd.R_mono HO298.out (fun _ hk => trivial))⟩, ⟨bl⟩⟩
              ·rw [if_neg c17] at H
               exact absurd H (by simp)
          ·rw [if_neg c10] at H
           have c10b0 := beq_eq_false_iff_ne.mpr c10
           have c10b1 := bne_iff_ne.mpr c10
           by_cases c25 : (rd l0 x17_2) > (wrap64 (a1 - (x6_2.length : Int)))
           ·rw [if_pos c25] at H
            have c25b0 := decide_eq_true c25
            clear c25
            simp only [Option.some.injEq, Prod.mk.injEq] at H
            obtain ⟨rfl, rfl⟩ := H
            have p289 : 0 ≤ (x17_2 : Int) := dt
            have q289 : x17_2 < (l0.length : Int) := dt
            obtain ⟨ad289, e289, hx289_0⟩ := Kd.at_int HR0.out x17_2 p289 q289
            cases e289
            replace hx289_0 := hcB HB.out hx289_0
            replace p289 := eq_true p289
            replace q289 := eq_true q289
            obtain ⟨Ao26, co26, eo26⟩ := Kd.R_slice HO_6.out
            subst eo26
            go_wp2
            go_ret2
            exact ⟨_, re, by first | exact Kd.R_nil _ _ _ _ _ | exact Kd.N_nil _ _ _ _ _ | exact Kd.V_nil _ _ _ _ _ | exact Kd.Q_nil _ _ _ _ _ | exact Kd.S_nil _ _ _ _ _, bl⟩
           ·rw [if_neg c25] at H
            have c25b0 := decide_eq_false c25
            clear c25
            by_cases c27 : (x6_2.length : Int) = a1
            ·rw [if_pos c27] at H
             have c27b0 := beq_iff_eq.mpr c27
             have c27b1 := bne_eq_false_iff_eq.mpr c27
             clear c27
             simp only [Option.some.injEq, Prod.mk.injEq] at H
             obtain ⟨rfl, rfl⟩ := H
             have p289 : 0 ≤ (x17_2 : Int) := dt
             have q289 : x17_2 < (l0.length : Int) := dt
             obtain ⟨ad289, e289, hx289_0⟩ := Kd.at_int HR0.out x17_2 p289 q289
             cases e289
             replace hx289_0 := hcB HB.out hx289_0
             replace p289 := eq_true p289
             replace q289 := eq_true q289
             obtain ⟨Ao28, co28, eo28⟩ := Kd.R_slice HO_6.out
             subst eo28
             go_wp2
             go_ret2
             exact ⟨_, re, by first | exact Kd.R_nil _ _ _ _ _ | exact Kd.N_nil _ _ _ _ _ | exact Kd.V_nil _ _ _ _ _ | exact Kd.Q_nil _ _ _ _ _ | exact Kd.S_nil _ _ _ _ _, bl⟩
            ·rw [if_neg c27] at H
             have c27b0 := beq_eq_false_iff_ne.mpr c27
             have c27b1 := bne_iff_ne.mpr c27
             obtain ⟨y299, hy_⟩ : ∃ y_ : List Int, y_ = (([(Int.tmod x17_2 2) % 256] : List Int)) := ⟨_, rfl⟩
             replace H : ((slices_Repeat_byte_byte.f k2 y299 (rd l0 x17_2)).bind fun t302 => (if x6_2.length + t302.length < 140737488355328 then (runs_FromRow.l0 k2 a1 (x6_2 ++ t302) l0 (l0.length : Int) (wrap64 (x17_2 + 1))) else (none))) = some (r1, r2) := rh
             have Ny299 := aE hy_
             clear hy_
             replace H := Option.bind_eq_some_iff.mp H
             obtain ⟨t302, A290, H⟩ := H
             replace H : (if x6_2.length + t302.length < 140737488355328 then (runs_FromRow.l0 k2 a1 (x6_2 ++ t302) l0 (l0.length : Int) (wrap64 (x17_2 + 1))) else (none)) = some (r1, r2) := H
             have A29 := Aside0.mk A290
             clear A290
             by_cases c30 : x6_2.length + t302.length < 140737488355328
             ·rw [if_pos c30] at H
              have LMc30 := Aside0.mk c30
              clear c30
              obtain ⟨y305, hy_⟩ : ∃ y_ : List Int, y_ = (x6_2 ++ t302) := ⟨_, rfl⟩
              replace H : (runs_FromRow.l0 k2 a1 y305 l0 (l0.length : Int) (wrap64 (x17_2 + 1))) = some (r1, r2) := rh
              have Ny305 := aE hy_
              clear hy_
              have H' := Aside0.mk H
              clear H
              have p289 : 0 ≤ (x17_2 : Int) := dt
              have q289 : x17_2 < (l0.length : Int) := dt
              obtain ⟨ad289, e289, hx289_0⟩ := Kd.at_int HR0.out x17_2 p289 q289
              cases e289
              replace hx289_0 := hcB HB.out hx289_0
              replace p289 := eq_true p289
              replace q289 := eq_true q289
              obtain ⟨Ao31, co31, eo31⟩ := Kd.R_slice HO_6.out
              subst eo31
              go_wp2_with (first | ((with_reducible refine gd 50 rfl ?_); (try (refine gate_guard (by rfl) ?_; dsimp only)); refine Kd.R_lit (Kd.int .u8) _ 5 ?hg (N := 50) ?hd (xs := ([(Int.tmod x17_2 2) % 256] : List Int)) (inner := [.int .u8 ((Int.tmod x17_2 2) % 256)]) (ok := fun _ => True) (okp := fun _ => True) ?hr ?hp (fun _ hk => hk) trivial (Below.refl _ _) (Nat.le_refl _) (by simp) ?_; (case hd => rfl); (case hg => rfl); (case hr => first | (go_simp; done) | (go_simp; rfl)); (case hp => exact (Reps.one (show Kd.M (Kd.int .u8) _ _ _ ((Int.tmod x17_2 2) % 256) [.int .u8 ((Int.tmod x17_2 2) % 256)] from rfl) (Reps.none _ _))); intro v300 w32 ho33 hb hg_ hnew_; clear hg_ hnew_; (first | rw [← Ny299.out] at ho33 | (simp only [Int.reduceToNat] at ho33; rw [← Ny299.out] at ho33)); have n_ := aC (Kd.R_elder' (rU HO_6.out) (Kd.R_base ho33) hb) (aC (Kd.R_lower (Kd.R_new' ho33 (Kd.R_lt (rU HO_6.out))) bz) (aE (bs hb))); clear HO_6 HB; obtain ⟨HO_6, HO301, HB⟩ := n_; clear hb ho33; obtain ⟨Ao34, co34, eo34⟩ := Kd.R_slice HO301.out; subst eo34) | ((with_reducible refine gf 45 rfl ?_); refine gL (some 52) rfl rfl Tryd.func45 rfl #[.slice Ao34 y299.length co34, .int .i64 (rd l0 x17_2)] rfl ?_; (with_reducible refine (slices_Repeat_byte_byte.calls k2 _ _ y299 (rd l0 x17_2) t302 _ ?side1 ?side2 A29.out).mono ?_); (case side1 => exact cU (Kd.R_reads' HO301.out).2.2); (case side2 => exact (Kd.R_reads' HO301.out).2.1); rintro e w35 ⟨v303, rfl, ho0, hb⟩; refine ⟨_, rfl, ?_⟩; have n_ := aC (Kd.R_elder' (rU HO_6.out) (Kd.R_base ho0) hb) (aC (Kd.R_elder' (rU HO301.out) (Kd.R_base ho0) hb) (aC (Kd.R_lower (Kd.R_new' (Kd.R_new' ho0 (Kd.R_lt (rU HO_6.out))) (Kd.R_lt (rU HO301.out))) bz) (aE (bs hb)))); clear HO_6 HO301 HB; obtain ⟨HO_6, HO301, HO304, HB⟩ := n_; (try clear hb); (try clear ho0); obtain ⟨Ao37, co37, eo37⟩ := Kd.R_slice HO304.out; subst eo37) | ((with_reducible refine gate_builtin (b := .append) (xs := #[.tmp 46, .tmp 52]) rfl ?_); (try (refine gate_guard (by rfl) ?_; dsimp only)); at_builtin; refine Kd.R_append_rows (Kd.int .u8) (w0 := w) w.heap.size rfl (.tmp 46) (.tmp 52) 22 5 (.int .u8 0) 1 rfl Tryd.underlying22 info5 rfl (by decide) (by omega) (.slice Ao31 x6_2.length co31) x6_2 t302 _ _ _ (fun k_ => some k_ ≠ (.slice Ao34 y299.length co34 : Value).ownBlock ∧ some k_ ≠ (.slice Ao37 t302.length co37 : Value).ownBlock) (fun _ => False) rfl rfl ?aO ?aR (fun _ _ h => h) (fun _ h => h.elim) ?aF ?aB ?aS ?aL ?_; (case aR => repeat (first | exact (Kd.R_reads' HO304.out).2.2 | (with_reducible refine Kd.C_alloc ?_ _) | (with_reducible refine Kd.C_drewN ?_ _) | (with_reducible refine Kd.C_drew ?_))); (case aB => exact bl); (case aF => exact (fun k_ hk => ⟨Kd.fresh' (Kd.R_lt (rU HO301.out)) k_ hk, Kd.fresh' (Kd.R_lt (rU HO304.out)) k_ hk⟩)); (case aO => exact (rU (Kd.R_mono HO_6.out (fun _ hk => ⟨hk.1.2, hk.2⟩)))); (case aS => exact bz); (case aL => have := LMc30.out; omega); intro v306 w36 ho hb hg hat; rw [← Ny305.out] at ho; have n_ := aC (Kd.R_after (ok := (fun k_ => some k_ ≠ (.slice Ao37 t302.length co37 : Value).ownBlock)) (rU (Kd.R_mono HO301.out (fun _ hk => ⟨hk.2, hk.1.2⟩))) hg hat) (aC (Kd.R_after (ok := (fun k_ => some k_ ≠ (.slice Ao34 y299.length co34 : Value).ownBlock)) (rU (Kd.R_mono HO304.out (fun _ hk => ⟨hk.2, hk.1.2⟩))) hg hat) (aC hb (aE ho))); clear HO301 HO304 HB HO_6; obtain ⟨HO301, HO304, HB, HO307⟩ := n_; clear ho hb hg hat))
              go_roundg k2
              case measure => have := HJ2.out; have := HK2.out; omega
              case rel => exact ⟨(y305), (wrap64 (x17_2 + 1)), rq, H', ⟨by have := HJ2.out; have := HK2.out; omega⟩, ⟨rU (Kd.R_mono HO307.out (fun _ hk => trivial))⟩, ⟨bl⟩⟩
             ·rw [if_neg c30] at H
              exact absurd H (by simp)
        ·rw [if_neg c8] at H
         exact absurd H (by simp)
       ·rw [if_neg c7] at H
        exact absurd H (by simp)
      ·rw [if_neg c6] at H
       have c6b0 := decide_eq_false c6
       clear c6
       by_cases c38 : (x6_2.length : Int) = a1
       ·rw [if_pos c38] at H
        have c38b0 := beq_iff_eq.mpr c38
        have c38b1 := bne_eq_false_iff_eq.mpr c38
        clear c38
        simp only [Option.some.injEq, Prod.mk.injEq] at H
        obtain ⟨rfl, rfl⟩ := H
        obtain ⟨Ao39, co39, eo39⟩ := Kd.R_slice HO_6.out
        subst eo39
        go_wp2
        go_ret2
        exact ⟨_, re, rU HO_6.out, bl⟩
       ·rw [if_neg c38] at H
        have c38b0 := beq_eq_false_iff_ne.mpr c38
        have c38b1 := bne_iff_ne.mpr c38
        simp only [Option.some.injEq, Prod.mk.injEq] at H
        obtain ⟨rfl, rfl⟩ := H
        obtain ⟨Ao40, co40, eo40⟩ := Kd.R_slice HO_6.out
        subst eo40
        go_wp2
        go_ret2
        exact ⟨_, re, by first | exact Kd.R_nil _ _ _ _ _ | exact Kd.N_nil _ _ _ _ _ | exact Kd.V_nil _ _ _ _ _ | exact Kd.Q_nil _ _ _ _ _ | exact Kd.S_nil _ _ _ _ _, bl⟩

/-! ### runs_row: function 46 -/
mutual
def runs_row.l0 : Nat → List Int → List Int → Int → Int → Option (List Int)
 | 0, _, _, _, _ => none
 | k + 1, x0, x3, x4, x5 => if x5 < (x0.length : Int) then (runs_row.l1 k x0 x3 x4 x5 x5) else (some x3)
def runs_row.l1 : Nat → List Int → List Int → Int → Int → Int → Option (List Int)
 | 0, _, _, _, _, _ => none
 | k + 1, x0, x3, x4, x5, x6 => if x5 < (x0.length : Int) then (if 0 ≤ x5 then (if (rd x0 x5) = x4 then (runs_row.l1 k x0 x3 x4 (wrap64 (x5 + 1)) x6) else (if x3.length < 17592186044416 then (runs_row.l0 k x0 (x3 ++ [wrap64 (x5 - x6)]) ((1 - x4) % 256) x5) else (none))) else (none)) else (if x3.length < 17592186044416 then (runs_row.l0 k x0 (x3 ++ [wrap64 (x5 - x6)]) ((1 - x4) % 256) x5) else (none))
end
def runs_row.f (k : Nat) (l0 : List Int) : Option (List Int) := runs_row.l0 k l0 ([] : List Int) 0 0
theorem runs_row.mono_l : ∀ k, (∀ y0 y1 y2 y3, LeO (runs_row.l0 k y0 y1 y2 y3) (runs_row.l0 (k + 1) y0 y1 y2 y3)) ∧ (∀ y0 y1 y2 y3 y4, LeO (runs_row.l1 k y0 y1 y2 y3 y4) (runs_row.l1 (k + 1) y0 y1 y2 y3 y4))
 | 0 => ⟨fun _ _ _ _ r h => by simp [runs_row.l0] at h, fun _ _ _ _ _ r h => by simp [runs_row.l1] at h⟩
 | k + 1 => by
  obtain ⟨ih0, ih1⟩ := runs_row.mono_l k
  refine ⟨?_, ?_⟩
  ·intro y0 y1 y2 y3
   unfold runs_row.l0
   repeat' first
   | (with_reducible exact ih0 _ _ _ _)
   | (with_reducible exact ih1 _ _ _ _ _)
   | (with_reducible first | exact LeO.refl _ | exact LeO.none _ | refine LeO.ite ?_ ?_ | refine LeO.bind ?_ (fun _ => ?_))
   | exact ih0 _ _ _ _
   | exact ih1 _ _ _ _ _
   | exact LeO.none _ | refine LeO.ite ?_ ?_ | refine LeO.bind ?_ (fun _ => ?_)
  ·intro y0 y1 y2 y3 y4
   unfold runs_row.l1
   repeat' first
   | (with_reducible exact ih0 _ _ _ _)
   | (with_reducible exact ih1 _ _ _ _ _)
   | (with_reducible first | exact LeO.refl _ | exact LeO.none _ | refine LeO.ite ?_ ?_ | refine LeO.bind ?_ (fun _ => ?_))
   | exact ih0 _ _ _ _
   | exact ih1 _ _ _ _ _
   | exact LeO.none _ | refine LeO.ite ?_ ?_ | refine LeO.bind ?_ (fun _ => ?_)
theorem runs_row.mono : ∀ a0 k, LeO (runs_row.f k a0) (runs_row.f (k + 1) a0) := by
 intro a0 k
 obtain ⟨ih0, ih1⟩ := runs_row.mono_l k
 unfold runs_row.f
 repeat' first
   | (with_reducible exact ih0 _ _ _ _)
   | (with_reducible exact ih1 _ _ _ _ _)
   | (with_reducible first | exact LeO.refl _ | exact LeO.none _ | refine LeO.ite ?_ ?_ | refine LeO.bind ?_ (fun _ => ?_))
   | exact ih0 _ _ _ _
   | exact ih1 _ _ _ _ _
   | exact LeO.none _ | refine LeO.ite ?_ ?_ | refine LeO.bind ?_ (fun _ => ?_)
set_option maxHeartbeats 8000000 in
set_option maxRecDepth 100000 in
theorem runs_row.calls (k : Nat) (A0 : Option Addr) (c0 : Nat) (l0 : List Int) (r : List Int) (w : World) (hr0 : Kd.C (Kd.int .u8) w A0 l0.length l0) (hc0 : l0.length ≤ c0) (h : runs_row.f k l0 = some r) :
  Calls Tryd.prog 46 #[.slice A0 l0.length c0] w fun e w' => ∃ v0_ : Value, e = .returned (v0_) ∧ Kd.R (Kd.int .i64) 3 w' w.heap.size (fun _ => True) v0_ r ∧ Below w.heap.size w w' := by
 have HR0 := Aside0.mk hr0
 have HC0 := Aside0.mk hc0
 clear hr0 hc0
 have HB := Aside0.mk (Below.refl w.heap.size w)
 have H : (runs_row.l0 k l0 ([] : List Int) 0 0) = some r := h
 clear h
 have H' := Aside0.mk H
 clear H
 go_enter Tryd.func46, Tryd.ntmps46
 go_wp2
 go_loopg [3, 4, 5] k (fun kq v3 v4 v5 w' => ∃ (x3_1 : List Int) (x4_1 : Int) (x5_1 : Int), v4 = .int .u8 x4_1 ∧ v5 = .int .i64 x5_1 ∧ Aside0 (runs_row.l0 kq l0 x3_1 x4_1 x5_1 = some r) ∧ Aside0 (kq ≤ k) ∧ Aside0 (Kd.R (Kd.int .i64) 3 w' w.heap.size (fun _ => True) v3 x3_1) ∧ Aside0 (Below w.heap.size w w'))
 case atStart => exact ⟨(([] : List Int)), (0), (0), rq, rq, H', ⟨Nat.le_refl _⟩, ⟨by first | exact Kd.R_nil _ _ _ _ _ | exact Kd.N_nil _ _ _ _ _ | exact Kd.V_nil _ _ _ _ _ | exact Kd.Q_nil _ _ _ _ _ | exact Kd.S_nil _ _ _ _ _⟩, ⟨bl⟩⟩
 case round =>
  clear H'
  obtain ⟨x3_1, x4_1, x5_1, rfl, rfl, HA, HK1, HO_3, HB⟩ := hrel
  cases gk with
  | zero => exact absurd HA.out (by simp [runs_row.l0])
  | succ k1 =>
   have H := HA.out
   clear HA
   simp only [runs_row.l0] at H
   by_cases c2 : x5_1 < (l0.length : Int)
   ·rw [if_pos c2] at H
    have c2b0 := decide_eq_true c2
    clear c2
    have H' := Aside0.mk H
    clear H
    go_wp2
    go_loopg [5] k1 (fun kq v5 w' => ∃ (x5_2 : Int), v5 = .int .i64 x5_2 ∧ Aside0 (runs_row.l1 kq l0 x3_1 x4_1 x5_2 x5_1 = some r) ∧ Aside0 (kq ≤ k1) ∧ Aside0 (Kd.R (Kd.int .i64) 3 w' w.heap.size (fun _ => True) u3 x3_1) ∧ Aside0 (Below w.heap.size w w'))
    case atStart => exact ⟨(x5_1), rq, H', ⟨Nat.le_refl _⟩, ⟨rU HO_3.out⟩, ⟨bl⟩⟩
    case round =>
     clear H'
     obtain ⟨x5_2, rfl, HA, HK2, HO_3, HB⟩ := hrel
     cases gk with
     | zero => exact absurd HA.out (by simp [runs_row.l1])
     | succ k2 =>
      have H := HA.out
      clear HA
      simp only [runs_row.l1] at H
      by_cases c3 : x5_2 < (l0.length : Int)
      ·rw [if_pos c3] at H
       have c3b0 := decide_eq_true c3
       clear c3
       by_cases c4 : 0 ≤ x5_2
       ·rw [if_pos c4] at H
        have c4b0 := decide_eq_true c4
        clear c4
        by_cases c5 : (rd l0 x5_2) = x4_1
        ·rw [if_pos c5] at H
         have c5b0 := beq_iff_eq.mpr c5
         have c5b1 := bne_eq_false_iff_eq.mpr c5
         clear c5
         have H' := Aside0.mk H
         clear H
         have p308 : 0 ≤ (x5_2 : Int) := dt
         have q308 : x5_2 < (l0.length : Int) := dt
         obtain ⟨ad308, e308, hx308_0⟩ := Kd.at_int HR0.out x5_2 p308 q308
         cases e308
         replace hx308_0 := hcB HB.out hx308_0
         replace p308 := eq_true p308
         replace q308 := eq_true q308
         go_wp2
         go_roundg k2
         case measure => have := HK1.out; have := HK2.out; omega
         case rel => exact ⟨(wrap64 (x5_2 + 1)), rq, H', ⟨by have := HK1.out; have := HK2.out; omega⟩, ⟨rU HO_3.out⟩, ⟨bl⟩⟩
        ·rw [if_neg c5] at H
         have c5b0 := beq_eq_false_iff_ne.mpr c5
         have c5b1 := bne_iff_ne.mpr c5
         by_cases c6 : x3_1.length < 17592186044416
         ·rw [if_pos c6] at H
          have LMc6 := Aside0.mk c6
          clear c6
          obtain ⟨y309, hy_⟩ : ∃ y_ : List Int, y_ = (x3_1 ++ [wrap64 (x5_2 - x5_1)]) := ⟨_, rfl⟩
          replace H : (runs_row.l0 k2 l0 y309 ((1 - x4_1) % 256) x5_2) = some r := rh
          have Ny309 := aE hy_
          clear hy_
          have H' := Aside0.mk H
          clear H
          have p308 : 0 ≤ (x5_2 : Int) := dt
          have q308 : x5_2 < (l0.length : Int) := dt
          obtain ⟨ad308, e308, hx308_0⟩ := Kd.at_int HR0.out x5_2 p308 q308
          cases e308
          replace hx308_0 := hcB HB.out hx308_0
          replace p308 := eq_true p308
          replace q308 := eq_true q308
          go_wp2_with (first | ((with_reducible refine gate_builtin (b := .append) (xs := #[.tmp 26, .tmp 30]) rfl ?_); at_builtin; refine Kd.R_append (Kd.int .i64) (w0 := w) w.heap.size rfl (.tmp 26) (.tmp 30) 38 3 (.int .i64 0) 8 rfl Tryd.underlying38 info3 rfl (by decide) (by omega) u3 x3_1 (wrap64 (x5_2 - x5_1)) [.int .i64 (wrap64 (x5_2 - x5_1))] (fun _ => True) (fun _ => False) rfl rfl ?aP (fun _ hk => hk.elim) ?aF ?aO ?aB ?aS ?aL ?_; (case aP => exact rfl); (case aB => exact bl); (case aF => exact (fun _ _ => trivial)); (case aO => exact (rU HO_3.out)); (case aS => exact bz); (case aL => have := LMc6.out; omega); intro v310 w7 ho hb hg hat; rw [← Ny309.out] at ho; have n_ := aC hb (aE ho); clear HB HO_3; obtain ⟨HB, HO311⟩ := n_; clear ho hb hg hat))
          go_roundg k2
          case measure => have := HK1.out; have := HK2.out; omega
          case rel => exact ⟨(y309), ((1 - x4_1) % 256), (x5_2), rq, rq, H', ⟨by have := HK1.out; have := HK2.out; omega⟩, ⟨rU HO311.out⟩, ⟨bl⟩⟩
         ·rw [if_neg c6] at H
          exact absurd H (by simp)
       ·rw [if_neg c4] at H
        exact absurd H (by simp)
      ·rw [if_neg c3] at H
       have c3b0 := decide_eq_false c3
       clear c3
       by_cases c8 : x3_1.length < 17592186044416
       ·rw [if_pos c8] at H
        have LMc8 := Aside0.mk c8
        clear c8
        obtain ⟨y312, hy_⟩ : ∃ y_ : List Int, y_ = (x3_1 ++ [wrap64 (x5_2 - x5_1)]) := ⟨_, rfl⟩
        replace H : (runs_row.l0 k2 l0 y312 ((1 - x4_1) % 256) x5_2) = some r := rh
        have Ny312 := aE hy_
        clear hy_
        have H' := Aside0.mk H
        clear H
        go_wp2_with (first | ((with_reducible refine gate_builtin (b := .append) (xs := #[.tmp 26, .tmp 30]) rfl ?_); at_builtin; refine Kd.R_append (Kd.int .i64) (w0 := w) w.heap.size rfl (.tmp 26) (.tmp 30) 38 3 (.int .i64 0) 8 rfl Tryd.underlying38 info3 rfl (by decide) (by omega) u3 x3_1 (wrap64 (x5_2 - x5_1)) [.int .i64 (wrap64 (x5_2 - x5_1))] (fun _ => True) (fun _ => False) rfl rfl ?aP (fun _ hk => hk.elim) ?aF ?aO ?aB ?aS ?aL ?_; (case aP => exact rfl); (case aB => exact bl); (case aF => exact (fun _ _ => trivial)); (case aO => exact (rU HO_3.out)); (case aS => exact bz); (case aL => have := LMc8.out; omega); intro v313 w9 ho hb hg hat; rw [← Ny312.out] at ho; have n_ := aC hb (aE ho); clear HB HO_3; obtain ⟨HB, HO314⟩ := n_; clear ho hb hg hat))
        go_roundg k2
        case measure => have := HK1.out; have := HK2.out; omega
        case rel => exact ⟨(y312), ((1 - x4_1) % 256), (x5_2), rq, rq, H', ⟨by have := HK1.out; have := HK2.out; omega⟩, ⟨rU HO314.out⟩, ⟨bl⟩⟩
       ·rw [if_neg c8] at H
        exact absurd H (by simp)
   ·rw [if_neg c2] at H
    have c2b0 := decide_eq_false c2
    clear c2
    obtain rfl := Option.some.inj H
    go_wp2
    go_ret
    exact ⟨_, re, rU HO_3.out, bl⟩

/-! ### runs_Row: function 21 -/
def runs_Row.f (k : Nat) (l0 : List Int) : Option (List Int × Int) := (runs_isRow.f k l0).bind fun t315 => (if t315 = true then ((runs_row.f k l0).bind fun t316 => (some (t316, 0))) else (some (([] : List Int), 2)))
theorem runs_Row.mono : ∀ a0 k, LeO (runs_Row.f k a0) (runs_Row.f (k + 1) a0) := by
 intro a0 k
 unfold runs_Row.f
 repeat' first
   | (with_reducible exact runs_isRow.mono _ _)
   | (with_reducible exact runs_row.mono _ _)
   | (with_reducible first | exact LeO.refl _ | exact LeO.none _ | refine LeO.ite ?_ ?_ | refine LeO.bind ?_ (fun _ => ?_))
   | exact runs_isRow.mono _ _
   | exact runs_row.mono _ _
   | exact LeO.none _ | refine LeO.ite ?_ ?_ | refine LeO.bind ?_ (fun _ => ?_)
set_option maxHeartbeats 8000000 in
set_option maxRecDepth 100000 in
theorem runs_Row.calls (k : Nat) (A0 : Option Addr) (c0 : Nat) (l0 : List Int) (r1 : List Int) (r2 : Int) (w : World) (hr0 : Kd.C (Kd.int .u8) w A0 l0.length l0) (hc0 : l0.length ≤ c0) (h : runs_Row.f k l0 = some (r1, r2)) :
  Calls Tryd.prog 21 #[.slice A0 l0.length c0] w fun e w' => ∃ v0_ : Value, e = .returned (.tuple #[v0_, .int .i64 r2]) ∧ Kd.R (Kd.int .i64) 3 w' w.heap.size (fun _ => True) v0_ r1 ∧ Below w.heap.size w w' := by
 have HR0 := Aside0.mk hr0
 have HC0 := Aside0.mk hc0
 clear hr0 hc0
 have HB := Aside0.mk (Below.refl w.heap.size w)
 have H : ((runs_isRow.f k l0).bind fun t315 => (if t315 = true then ((runs_row.f k l0).bind fun t316 => (some (t316, 0))) else (some (([] : List Int), 2)))) = some (r1, r2) := h
 clear h
 replace H := Option.bind_eq_some_iff.mp H
 obtain ⟨t315, A20, H⟩ := H
 replace H : (if t315 = true then ((runs_row.f k l0).bind fun t316 => (some (t316, 0))) else (some (([] : List Int), 2))) = some (r1, r2) := H
 have A2 := Aside0.mk A20
 clear A20
 by_cases c3 : t315 = true
 ·subst c3
  have H1 : ((runs_row.f k l0).bind fun t316 => (some (t316, 0))) = some (r1, r2) := by rw [if_pos rfl] at H; exact H
  clear H
  have H := H1
  clear H1
  replace H := Option.bind_eq_some_iff.mp H
  obtain ⟨t316, A40, H⟩ := H
  replace H : (some (t316, 0)) = some (r1, r2) := H
  have A4 := Aside0.mk A40
  clear A40
  simp only [Option.some.injEq, Prod.mk.injEq] at H
  obtain ⟨rfl, rfl⟩ := H
  go_enter Tryd.func21, Tryd.ntmps21
  go_wp2_with (first | ((with_reducible refine gf 40 rfl ?_); refine gL (some 5) rfl rfl Tryd.func40 rfl #[.slice A0 l0.length c0] rfl ?_; (with_reducible refine (runs_isRow.calls k _ _ l0 true _ ?side1 ?side2 A2.out).mono ?_); (case side1 => exact cU HR0.out); (case side2 => exact HC0.out); rintro e w5 ⟨rfl, hb⟩; refine ⟨_, rfl, ?_⟩; have n_ := aE (bs hb); clear HB; have HB := n_; clear n_; (try clear hb)) | ((with_reducible refine gf 46 rfl ?_); refine gL (some 8) rfl rfl Tryd.func46 rfl #[.slice A0 l0.length c0] rfl ?_; (with_reducible refine (runs_row.calls k _ _ l0 t316 _ ?side1 ?side2 A4.out).mono ?_); (case side1 => exact cU (Kd.C_below HR0.out HB.out)); (case side2 => exact HC0.out); rintro e w6 ⟨v317, rfl, ho0, hb⟩; refine ⟨_, rfl, ?_⟩; have n_ := aC (Kd.R_lower ho0 bz) (aE (bs hb)); clear HB; obtain ⟨HO318, HB⟩ := n_; (try clear hb); (try clear ho0)))
  go_ret2
  exact ⟨_, re, rU HO318.out, bl⟩
 ·replace c3 := Bool.eq_false_iff.mpr c3
  subst c3
  have H1 : (some (([] : List Int), 2)) = some (r1, r2) := by rw [if_neg (show ¬ (false = true) by decide)] at H; exact H
  clear H
  have H := H1
  clear H1
  simp only [Option.some.injEq, Prod.mk.injEq] at H
  obtain ⟨rfl, rfl⟩ := H
  go_enter Tryd.func21, Tryd.ntmps21
  go_wp2_with (first | ((with_reducible refine gf 40 rfl ?_); refine gL (some 5) rfl rfl Tryd.func40 rfl #[.slice A0 l0.length c0] rfl ?_; (with_reducible refine (runs_isRow.calls k _ _ l0 false _ ?side1 ?side2 A2.out).mono ?_); (case side1 => exact cU HR0.out); (case side2 => exact HC0.out); rintro e w7 ⟨rfl, hb⟩; refine ⟨_, rfl, ?_⟩; have n_ := aE (bs hb); clear HB; have HB := n_; clear n_; (try clear hb)))
  go_ret2
  exact ⟨_, re, by first | exact Kd.R_nil _ _ _ _ _ | exact Kd.N_nil _ _ _ _ _ | exact Kd.V_nil _ _ _ _ _ | exact Kd.Q_nil _ _ _ _ _ | exact Kd.S_nil _ _ _ _ _, bl⟩

/-! ### incunableref02_SameInts: function 22 -/
def incunableref02_SameInts.l0 : Nat → List Int → List Int → Int → Int → Option (Bool)
 | 0, _, _, _, _ => none
 | k + 1, x0, x1, x12, x13 => if x13 < x12 then (if 0 ≤ x13 then (if x13 < (x0.length : Int) then (if x13 < (x1.length : Int) then (if (rd x0 x13) = (rd x1 x13) then (incunableref02_SameInts.l0 k x0 x1 x12 (wrap64 (x13 + 1))) else (some false)) else (none)) else (none)) else (none)) else (some true)
def incunableref02_SameInts.f (k : Nat) (l0 : List Int) (l1 : List Int) : Option (Bool) := if (l0.length : Int) = (l1.length : Int) then (incunableref02_SameInts.l0 k l0 l1 (l0.length : Int) 0) else (some false)
theorem incunableref02_SameInts.mono_l : ∀ k, (∀ y0 y1 y2 y3, LeO (incunableref02_SameInts.l0 k y0 y1 y2 y3) (incunableref02_SameInts.l0 (k + 1) y0 y1 y2 y3))
 | 0 => fun _ _ _ _ r h => by simp [incunableref02_SameInts.l0] at h
 | k + 1 => by
  have ih0 := incunableref02_SameInts.mono_l k
  ·intro y0 y1 y2 y3
   unfold incunableref02_SameInts.l0
   repeat' first
   | (with_reducible exact ih0 _ _ _ _)
   | (with_reducible first | exact LeO.refl _ | exact LeO.none _ | refine LeO.ite ?_ ?_ | refine LeO.bind ?_ (fun _ => ?_))
   | exact ih0 _ _ _ _
   | exact LeO.none _ | refine LeO.ite ?_ ?_ | refine LeO.bind ?_ (fun _ => ?_)
theorem incunableref02_SameInts.mono : ∀ a0 a1 k, LeO (incunableref02_SameInts.f k a0 a1) (incunableref02_SameInts.f (k + 1) a0 a1) := by
 intro a0 a1 k
 have ih0 := incunableref02_SameInts.mono_l k
 unfold incunableref02_SameInts.f
 repeat' first
   | (with_reducible exact ih0 _ _ _ _)
   | (with_reducible first | exact LeO.refl _ | exact LeO.none _ | refine LeO.ite ?_ ?_ | refine LeO.bind ?_ (fun _ => ?_))
   | exact ih0 _ _ _ _
   | exact LeO.none _ | refine LeO.ite ?_ ?_ | refine LeO.bind ?_ (fun _ => ?_)
set_option maxHeartbeats 8000000 in
set_option maxRecDepth 100000 in
theorem incunableref02_SameInts.calls (k : Nat) (A0 : Option Addr) (c0 : Nat) (l0 : List Int) (A1 : Option Addr) (c1 : Nat) (l1 : List Int) (r : Bool) (w : World) (hr0 : Kd.C (Kd.int .i64) w A0 l0.length l0) (hc0 : l0.length ≤ c0) (hr1 : Kd.C (Kd.int .i64) w A1 l1.length l1) (hc1 : l1.length ≤ c1) (h : incunableref02_SameInts.f k l0 l1 = some r) :
  Calls Tryd.prog 22 #[.slice A0 l0.length c0, .slice A1 l1.length c1] w fun e w' => e = .returned (.bool r) ∧ Drawn0 w w' := by
 have HR0 := Aside0.mk hr0
 have HC0 := Aside0.mk hc0
 clear hr0 hc0
 have HR1 := Aside0.mk hr1
 have HC1 := Aside0.mk hc1
 clear hr1 hc1
 have H : (if (l0.length : Int) = (l1.length : Int) then (incunableref02_SameInts.l0 k l0 l1 (l0.length : Int) 0) else (some false)) = some r := h
 clear h
 by_cases c3 : (l0.length : Int) = (l1.length : Int)
 ·rw [if_pos c3] at H
  have c3b0 := beq_iff_eq.mpr c3
  have c3b1 := bne_eq_false_iff_eq.mpr c3
  have c3b2 : (l0.length == l1.length) = true := by first | simpa using c3 | (simp at c3 ⊢; omega)
  clear c3
  have H' := Aside0.mk H
  clear H
  go_enter Tryd.func22, Tryd.ntmps22
  go_wp2
  go_loopg [13] k (fun kq v13 w' => ∃ (x13_1 : Int), v13 = .int .i64 x13_1 ∧ Aside0 (incunableref02_SameInts.l0 kq l0 l1 (l0.length : Int) x13_1 = some r) ∧ Aside0 (kq ≤ k) ∧ Drawn0 w w')
  case atStart => exact ⟨(0), rq, H', ⟨Nat.le_refl _⟩, by repeat (first | exact Drawn0.refl _ | apply Drawn0.step)⟩
  case round =>
   clear H'
   try clear c1
   obtain ⟨x13_1, rfl, HA, HK1, ⟨m1, rfl⟩⟩ := hrel
   cases gk with
   | zero => exact absurd HA.out (by simp [incunableref02_SameInts.l0])
   | succ k1 =>
    have H := HA.out
    clear HA
    simp only [incunableref02_SameInts.l0] at H
    by_cases c4 : x13_1 < (l0.length : Int)
    ·rw [if_pos c4] at H
     have c4b0 := decide_eq_true c4
     clear c4
     by_cases c5 : 0 ≤ x13_1
     ·rw [if_pos c5] at H
      have c5b0 := decide_eq_true c5
      clear c5
      by_cases c6 : x13_1 < (l0.length : Int)
      ·rw [if_pos c6] at H
       have c6b0 := decide_eq_true c6
       clear c6
       by_cases c7 : x13_1 < (l1.length : Int)
       ·rw [if_pos c7] at H
        have c7b0 := decide_eq_true c7
        clear c7
        by_cases c8 : (rd l0 x13_1) = (rd l1 x13_1)
        ·rw [if_pos c8] at H
         have c8b0 := beq_iff_eq.mpr c8
         have c8b1 := bne_eq_false_iff_eq.mpr c8
         clear c8
         have H' := Aside0.mk H
         clear H
         have p319 : 0 ≤ (x13_1 : Int) := dt
         have q319 : x13_1 < (l0.length : Int) := dt
         obtain ⟨ad319, e319, hx319_0⟩ := Kd.at_int HR0.out x13_1 p319 q319
         cases e319
         replace p319 := eq_true p319
         replace q319 := eq_true q319
         have p320 : 0 ≤ (x13_1 : Int) := dt
         have q320 : x13_1 < (l1.length : Int) := dt
         obtain ⟨ad320, e320, hx320_0⟩ := Kd.at_int HR1.out x13_1 p320 q320
         cases e320
         replace p320 := eq_true p320
         replace q320 := eq_true q320
         go_wp2
         repeat (go_quiet (fail); try go_wp2)
         go_roundg k1
         case measure => have := HK1.out; omega
         case rel => exact ⟨(wrap64 (x13_1 + 1)), rq, H', ⟨by have := HK1.out; omega⟩, by repeat (first | exact Drawn0.refl _ | apply Drawn0.step)⟩
        ·rw [if_neg c8] at H
         have c8b0 := beq_eq_false_iff_ne.mpr c8
         have c8b1 := bne_iff_ne.mpr c8
         obtain rfl := Option.some.inj H
         have p319 : 0 ≤ (x13_1 : Int) := dt
         have q319 : x13_1 < (l0.length : Int) := dt
         obtain ⟨ad319, e319, hx319_0⟩ := Kd.at_int HR0.out x13_1 p319 q319
         cases e319
         replace p319 := eq_true p319
         replace q319 := eq_true q319
         have p320 : 0 ≤ (x13_1 : Int) := dt
         have q320 : x13_1 < (l1.length : Int) := dt
         obtain ⟨ad320, e320, hx320_0⟩ := Kd.at_int HR1.out x13_1 p320 q320
         cases e320
         replace p320 := eq_true p320
         replace q320 := eq_true q320
         go_wp2
         repeat (go_quiet (fail); try go_wp2)
         go_ret
         exact ⟨by first | rfl | (simp; done) | (simp [*]; done), by repeat (first | exact Drawn0.refl _ | apply Drawn0.step)⟩
       ·rw [if_neg c7] at H
        exact absurd H (by simp)
      ·rw [if_neg c6] at H
       exact absurd H (by simp)
     ·rw [if_neg c5] at H
      exact absurd H (by simp)
    ·rw [if_neg c4] at H
     have c4b0 := decide_eq_false c4
     clear c4
     obtain rfl := Option.some.inj H
     go_wp2
     go_ret
     exact ⟨by first | rfl | (simp; done) | (simp [*]; done), by repeat (first | exact Drawn0.refl _ | apply Drawn0.step)⟩
 ·rw [if_neg c3] at H
  have c3b0 := beq_eq_false_iff_ne.mpr c3
  have c3b1 := bne_iff_ne.mpr c3
  have c3b2 : (l0.length == l1.length) = false := by first | simpa using c3 | (simp at c3 ⊢; omega)
  obtain rfl := Option.some.inj H
  go_enter Tryd.func22, Tryd.ntmps22
  go_wp2
  go_ret
  exact ⟨by first | rfl | (simp; done) | (simp [*]; done), by repeat (first | exact Drawn0.refl _ | apply Drawn0.step)⟩

end Go.Proofs.YtknclbodinfbeaaDoor.PRunsRow
