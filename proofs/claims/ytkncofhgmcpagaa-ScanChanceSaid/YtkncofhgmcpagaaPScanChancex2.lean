-- Written by a program of this session (wip/tools/myprint.py) over the kit's print. Not trusted: Lean checks it.
import Derived.Test.YtkncofhgmcpagaaPScanChancex0
import Derived.Test.YtkncofhgmcpagaaPScanChancex1
namespace Go.Proofs.Ytkncofhgmcpagaa.PScanChance
open Go.RowKit Go.Proofs.YtkncofhgmcpagaaW.PrintWords Go.Proofs.YtkncofhgmcpagaaW.PrintLast Go.Proofs.YtkncofhgmcpagaaW.PrintMore
attribute [local go_sem] max2_int min2_int max_two min_two max_three min_three max_four min_four   -- for this text's walks alone
set_option linter.unusedVariables false
set_option linter.unusedSimpArgs false

/-! ### incunablelaw29_ScanChance: function 3 -/
mutual
def incunablelaw29_ScanChance.j0 : Nat → Int → Int → Int → List Int → Int → Bool → Option (Bool)
  | 0, _, _, _, _, _, _ => none
  | k + 1, x0, x1, x2, x7, x8, x32 => if x32 = true then (some false) else (if x8 = 0 then (incunablelaw29_ScanChance.j1 k x0 x1 x2 x7 (x1 == 0)) else (incunablelaw29_ScanChance.j1 k x0 x1 x2 x7 true))
def incunablelaw29_ScanChance.j1 : Nat → Int → Int → Int → List Int → Bool → Option (Bool)
  | 0, _, _, _, _, _ => none
  | k + 1, x0, x1, x2, x7, x38 => if x38 = true then ((incunablelaw29_Sane.f k).bind fun t135 => (some t135)) else (if x1 = 0 then (none) else ((scan_Chance.f k x0 (Int.tmod (wrap64 ((Int.tmod x2 x1) + x1)) x1)).bind fun bt136 => (if bt136.2 = 0 then (if 0 ≤ (Int.tmod (wrap64 ((Int.tmod x2 x1) + x1)) x1) then (if (Int.tmod (wrap64 ((Int.tmod x2 x1) + x1)) x1) ≤ (x7.length : Int) then ((incunableref01_SameInts.f k bt136.1 (x7.take ((Int.tmod (wrap64 ((Int.tmod x2 x1) + x1)) x1) : Int).toNat)).bind fun t144 => (if t144 = true then ((incunablelaw29_Sane.f k).bind fun t145 => (some t145)) else (some false))) else (none)) else (none)) else (some false))))
end
def incunablelaw29_ScanChance.f (k : Nat) (a0 : Int) (a1 : Int) (a2 : Int) : Option (Bool) := (scan_Chance.f k a0 a1).bind fun bt126 => ((incunableref29_Chance.f k a0 a1).bind fun bt130 => (if bt126.2 = bt130.2 then ((incunableref01_SameInts.f k bt126.1 bt130.1).bind fun t134 => (incunablelaw29_ScanChance.j0 k a0 a1 a2 bt126.1 bt126.2 (!t134))) else (incunablelaw29_ScanChance.j0 k a0 a1 a2 bt126.1 bt126.2 true)))
theorem incunablelaw29_ScanChance.mono_l : ∀ k, (∀ y0 y1 y2 y3 y4 y5, LeO (incunablelaw29_ScanChance.j0 k y0 y1 y2 y3 y4 y5) (incunablelaw29_ScanChance.j0 (k + 1) y0 y1 y2 y3 y4 y5)) ∧ (∀ y0 y1 y2 y3 y4, LeO (incunablelaw29_ScanChance.j1 k y0 y1 y2 y3 y4) (incunablelaw29_ScanChance.j1 (k + 1) y0 y1 y2 y3 y4))
  | 0 => ⟨fun _ _ _ _ _ _ r h => by simp [incunablelaw29_ScanChance.j0] at h, fun _ _ _ _ _ r h => by simp [incunablelaw29_ScanChance.j1] at h⟩
  | k + 1 => by
    obtain ⟨ih0, ih1⟩ := incunablelaw29_ScanChance.mono_l k
    refine ⟨?_, ?_⟩
    · intro y0 y1 y2 y3 y4 y5
      unfold incunablelaw29_ScanChance.j0
      repeat' first
      | (with_reducible exact ih0 _ _ _ _ _ _)
      | (with_reducible exact ih1 _ _ _ _ _)
      | (with_reducible exact incunablelaw29_Sane.mono _)
      | (with_reducible exact incunableref01_SameInts.mono _ _ _)
      | (with_reducible exact incunableref29_Chance.mono _ _ _)
      | (with_reducible exact scan_Chance.mono _ _ _)
      | (with_reducible exact LeO.refl _)
      | (with_reducible exact LeO.none _)
      | (with_reducible refine LeO.ite ?_ ?_)
      | (with_reducible refine LeO.bind ?_ (fun _ => ?_))
      | exact ih0 _ _ _ _ _ _
      | exact ih1 _ _ _ _ _
      | exact incunablelaw29_Sane.mono _
      | exact incunableref01_SameInts.mono _ _ _
      | exact incunableref29_Chance.mono _ _ _
      | exact scan_Chance.mono _ _ _
      | exact LeO.none _
      | refine LeO.ite ?_ ?_
      | refine LeO.bind ?_ (fun _ => ?_)
    · intro y0 y1 y2 y3 y4
      unfold incunablelaw29_ScanChance.j1
      repeat' first
      | (with_reducible exact ih0 _ _ _ _ _ _)
      | (with_reducible exact ih1 _ _ _ _ _)
      | (with_reducible exact incunablelaw29_Sane.mono _)
      | (with_reducible exact incunableref01_SameInts.mono _ _ _)
      | (with_reducible exact incunableref29_Chance.mono _ _ _)
      | (with_reducible exact scan_Chance.mono _ _ _)
      | (with_reducible exact LeO.refl _)
      | (with_reducible exact LeO.none _)
      | (with_reducible refine LeO.ite ?_ ?_)
      | (with_reducible refine LeO.bind ?_ (fun _ => ?_))
      | exact ih0 _ _ _ _ _ _
      | exact ih1 _ _ _ _ _
      | exact incunablelaw29_Sane.mono _
      | exact incunableref01_SameInts.mono _ _ _
      | exact incunableref29_Chance.mono _ _ _
      | exact scan_Chance.mono _ _ _
      | exact LeO.none _
      | refine LeO.ite ?_ ?_
      | refine LeO.bind ?_ (fun _ => ?_)
theorem incunablelaw29_ScanChance.mono : ∀ a0 a1 a2 k, LeO (incunablelaw29_ScanChance.f k a0 a1 a2) (incunablelaw29_ScanChance.f (k + 1) a0 a1 a2) := by
  intro a0 a1 a2 k
  obtain ⟨ih0, ih1⟩ := incunablelaw29_ScanChance.mono_l k
  unfold incunablelaw29_ScanChance.f
  repeat' first
      | (with_reducible exact ih0 _ _ _ _ _ _)
      | (with_reducible exact ih1 _ _ _ _ _)
      | (with_reducible exact incunablelaw29_Sane.mono _)
      | (with_reducible exact incunableref01_SameInts.mono _ _ _)
      | (with_reducible exact incunableref29_Chance.mono _ _ _)
      | (with_reducible exact scan_Chance.mono _ _ _)
      | (with_reducible exact LeO.refl _)
      | (with_reducible exact LeO.none _)
      | (with_reducible refine LeO.ite ?_ ?_)
      | (with_reducible refine LeO.bind ?_ (fun _ => ?_))
      | exact ih0 _ _ _ _ _ _
      | exact ih1 _ _ _ _ _
      | exact incunablelaw29_Sane.mono _
      | exact incunableref01_SameInts.mono _ _ _
      | exact incunableref29_Chance.mono _ _ _
      | exact scan_Chance.mono _ _ _
      | exact LeO.none _
      | refine LeO.ite ?_ ?_
      | refine LeO.bind ?_ (fun _ => ?_)
set_option maxHeartbeats 8000000 in
set_option maxRecDepth 100000 in
theorem incunablelaw29_ScanChance.calls (k : Nat) (a0 : Int) (a1 : Int) (a2 : Int) (r : Bool) (w : World) (h : incunablelaw29_ScanChance.f k a0 a1 a2 = some r) (hr_ : r = true) :
    Calls Try.prog 3 #[.int .i64 a0, .int .i64 a1, .int .i64 a2] w fun e w' => e = .returned (.bool r) ∧ Below w.heap.size w w' := by
  have HR_ := Aside0.mk hr_
  clear hr_
  have HB := Aside0.mk (Below.refl w.heap.size w)
  have H : ((scan_Chance.f k a0 a1).bind fun bt126 => ((incunableref29_Chance.f k a0 a1).bind fun bt130 => (if bt126.2 = bt130.2 then ((incunableref01_SameInts.f k bt126.1 bt130.1).bind fun t134 => (incunablelaw29_ScanChance.j0 k a0 a1 a2 bt126.1 bt126.2 (!t134))) else (incunablelaw29_ScanChance.j0 k a0 a1 a2 bt126.1 bt126.2 true)))) = some r := h
  clear h
  replace H := Option.bind_eq_some_iff.mp H
  obtain ⟨⟨t126, t127⟩, A40, H⟩ := H
  replace H : ((incunableref29_Chance.f k a0 a1).bind fun bt130 => (if t127 = bt130.2 then ((incunableref01_SameInts.f k t126 bt130.1).bind fun t134 => (incunablelaw29_ScanChance.j0 k a0 a1 a2 t126 t127 (!t134))) else (incunablelaw29_ScanChance.j0 k a0 a1 a2 t126 t127 true))) = some r := H
  have A4 := Aside0.mk A40
  clear A40
  replace H := Option.bind_eq_some_iff.mp H
  obtain ⟨⟨t130, t131⟩, A50, H⟩ := H
  replace H : (if t127 = t131 then ((incunableref01_SameInts.f k t126 t130).bind fun t134 => (incunablelaw29_ScanChance.j0 k a0 a1 a2 t126 t127 (!t134))) else (incunablelaw29_ScanChance.j0 k a0 a1 a2 t126 t127 true)) = some r := H
  have A5 := Aside0.mk A50
  clear A50
  have HC6 := Aside0.mk H
  clear H
  go_enter Try.func3, Try.ntmps3
  go_upto_region 3 with (first | ((with_reducible refine gate_callee (f := 11) rfl ?_); refine goesL_ (some 15) rfl rfl Try.func11 (by kernel_rfl) rfl #[.int .i64 a0, .int .i64 a1] rfl (by (try simp only [List.map_toArray, List.map_cons, List.map_nil]); first | done | rfl | (simp only [List.length_drop, List.length_take]; rfl)) ?_; (with_reducible refine (scan_Chance.calls k a0 a1 t126 t127 _ A4.out).mono ?_); rintro e w7 ⟨v128, rfl, ho0, hb⟩; refine ⟨_, rfl, ?_⟩; have n0_ := Aside0.mk (Kd.R_lower ho0 (below_size (by repeat (first | (with_reducible first | exact HB.out | apply below_alloc | apply pw_below_drewN | apply below_drew1) | exact HB.out)))); have n1_ := Aside0.mk (below_step (by repeat (first | (with_reducible first | exact HB.out | apply below_alloc | apply pw_below_drewN | apply below_drew1) | exact HB.out)) hb); clear HB; have HO129 := n0_; have HB := n1_; clear n0_ n1_; (try clear hb); (try clear hb2); (try clear hk); (try clear hi); (try clear ho0)) | ((with_reducible refine gate_callee (f := 12) rfl ?_); refine goesL_ (some 21) rfl rfl Try.func12 (by kernel_rfl) rfl #[.int .i64 a0, .int .i64 a1] rfl (by (try simp only [List.map_toArray, List.map_cons, List.map_nil]); first | done | rfl | (simp only [List.length_drop, List.length_take]; rfl)) ?_; (with_reducible refine (incunableref29_Chance.calls k a0 a1 t130 t131 _ A5.out).mono ?_); rintro e w8 ⟨v132, rfl, ho0, hb⟩; refine ⟨_, rfl, ?_⟩; have n0_ := Aside0.mk (Kd.R_elder' (rU HO129.out) (Kd.R_base ho0) hb); have n1_ := Aside0.mk (Kd.R_lower (Kd.R_new' ho0 (Kd.R_lt (rU HO129.out))) (below_size (by repeat (first | (with_reducible first | exact HB.out | apply below_alloc | apply pw_below_drewN | apply below_drew1) | exact HB.out)))); have n2_ := Aside0.mk (below_step (by repeat (first | (with_reducible first | exact HB.out | apply below_alloc | apply pw_below_drewN | apply below_drew1) | exact HB.out)) hb); clear HO129; clear HB; have HO129 := n0_; have HO133 := n1_; have HB := n2_; clear n0_ n1_ n2_; (try clear hb); (try clear hb2); (try clear hk); (try clear hi); (try clear ho0)))
  (try simp only [Act.put, List.setIfInBounds_toArray, List.set_cons_zero, List.set_cons_succ])
  go_cut [32] (fun v32 wc => ∃ (kq : Nat) (x32_5 : Bool), v32 = .bool x32_5 ∧ Aside0 (incunablelaw29_ScanChance.j0 kq a0 a1 a2 t126 t127 x32_5 = some r) ∧ Aside0 (kq ≤ k) ∧ Aside0 (Kd.R (Kd.int .i64) 3 wc w.heap.size (fun _ => True) v128 t126) ∧ Aside0 (Below w.heap.size w wc))
  case first =>
    have H := HC6.out
    clear HC6
    by_cases c9 : t127 = t131
    · rw [if_pos c9] at H
      have c9b0 : (t127 == t131) = true := beq_iff_eq.mpr c9
      have c9b1 : (t127 != t131) = false := bne_eq_false_iff_eq.mpr c9
      clear c9
      (first | rw [c9b0] | (simp only [i64_w, i32_w]; rw [c9b0]) | skip)
      replace H := Option.bind_eq_some_iff.mp H
      obtain ⟨t134, A100, H⟩ := H
      replace H : (incunablelaw29_ScanChance.j0 k a0 a1 a2 t126 t127 (!t134)) = some r := H
      have A10 := Aside0.mk A100
      clear A100
      have H' := Aside0.mk H
      clear H
      obtain ⟨Ao11, co11, eo11⟩ := Kd.R_slice HO129.out
      subst eo11
      obtain ⟨Ao12, co12, eo12⟩ := Kd.R_slice HO133.out
      subst eo12
      go_wp2_with (first | (go_at_call 13; (with_reducible refine (incunableref01_SameInts.calls k _ _ t126 _ _ t130 t134 _ ?side1 ?side2 ?side3 ?side4 A10.out).mono ?_); (case side1 => repeat (first | exact (Kd.R_reads' HO129.out).2.2 | (with_reducible refine Kd.C_alloc ?_ _) | (with_reducible refine Kd.C_drewN ?_ _) | (with_reducible refine Kd.C_drew ?_))); (case side2 => exact (Kd.R_reads' HO129.out).2.1); (case side3 => repeat (first | exact (Kd.R_reads' HO133.out).2.2 | (with_reducible refine Kd.C_alloc ?_ _) | (with_reducible refine Kd.C_drewN ?_ _) | (with_reducible refine Kd.C_drew ?_))); (case side4 => exact (Kd.R_reads' HO133.out).2.1); rintro e w' ⟨rfl, ⟨nd, rfl⟩⟩))
      go_meet
      case rel => exact ⟨_, (!t134), (by first | rfl | (simp; done) | (simp [*]; done)), H', ⟨by first | omega | exact Nat.le_refl _⟩, ⟨by (with_reducible repeat (first | apply Kd.R_alloc | apply Kd.R_drewN | apply Kd.R_drew)); exact Kd.R_mono HO129.out (fun _ hk => trivial)⟩, ⟨by repeat (first | (with_reducible first | exact HB.out | apply below_alloc | apply pw_below_drewN | apply below_drew1) | exact HB.out)⟩⟩
    · rw [if_neg c9] at H
      have c9b0 : (t127 == t131) = false := beq_eq_false_iff_ne.mpr c9
      have c9b1 : (t127 != t131) = true := bne_iff_ne.mpr c9
      (first | rw [c9b0] | (simp only [i64_w, i32_w]; rw [c9b0]) | skip)
      have H' := Aside0.mk H
      clear H
      go_wp2
      go_meet
      case rel => exact ⟨_, (true), (by first | rfl | (simp; done) | (simp [*]; done)), H', ⟨by first | omega | exact Nat.le_refl _⟩, ⟨by (with_reducible repeat (first | apply Kd.R_alloc | apply Kd.R_drewN | apply Kd.R_drew)); exact Kd.R_mono HO129.out (fun _ hk => trivial)⟩, ⟨by repeat (first | (with_reducible first | exact HB.out | apply below_alloc | apply pw_below_drewN | apply below_drew1) | exact HB.out)⟩⟩
  case rest =>
    clear HC6
    try clear c1
    try clear p2
    try clear c3
    try clear c9
    try clear c9b0
    try clear c9b1
    try clear c11
    try clear c12
    obtain ⟨kq, x32_5, rfl, HA, HJ5, HO_7, HB⟩ := hcut
    cases kq with
    | zero => exact absurd HA.out (by simp [incunablelaw29_ScanChance.j0])
    | succ kj5 =>
      have H := HA.out
      clear HA
      simp only [incunablelaw29_ScanChance.j0] at H
      by_cases c13 : x32_5 = true
      · subst c13
        have H1 : (some false) = some r := by rw [if_pos rfl] at H; exact H
        clear H
        have H := H1
        clear H1
        exact absurd ((Option.some.inj H).trans HR_.out) (by decide)
      · replace c13 := Bool.eq_false_iff.mpr c13
        subst c13
        have H1 : (if t127 = 0 then (incunablelaw29_ScanChance.j1 kj5 a0 a1 a2 t126 (a1 == 0)) else (incunablelaw29_ScanChance.j1 kj5 a0 a1 a2 t126 true)) = some r := by rw [if_neg (show ¬ (false = true) by decide)] at H; exact H
        clear H
        have H := H1
        clear H1
        have HC14 := Aside0.mk H
        clear H
        go_upto_region 5 with (fail)
        go_cut [38] (fun v38 wc => ∃ (kq : Nat) (x38_13 : Bool), v38 = .bool x38_13 ∧ Aside0 (incunablelaw29_ScanChance.j1 kq a0 a1 a2 t126 x38_13 = some r) ∧ Aside0 (kq ≤ kj5) ∧ Aside0 (Kd.R (Kd.int .i64) 3 wc w.heap.size (fun _ => True) v128 t126) ∧ Aside0 (Below w.heap.size w wc))
        case first =>
          have H := HC14.out
          clear HC14
          by_cases c15 : t127 = 0
          · rw [if_pos c15] at H
            have c15b0 : (t127 == 0) = true := beq_iff_eq.mpr c15
            have c15b1 : (t127 != 0) = false := bne_eq_false_iff_eq.mpr c15
            clear c15
            (first | rw [c15b0] | (simp only [i64_w, i32_w]; rw [c15b0]) | skip)
            have H' := Aside0.mk H
            clear H
            go_wp2
            go_meet
            case rel => exact ⟨_, ((a1 == 0)), (by first | rfl | (simp; done) | (simp [*]; done)), H', ⟨by have := HJ5.out; first | omega | exact Nat.le_refl _⟩, ⟨by (with_reducible repeat (first | apply Kd.R_alloc | apply Kd.R_drewN | apply Kd.R_drew)); exact HO_7.out⟩, ⟨by repeat (first | (with_reducible first | exact HB.out | apply below_alloc | apply pw_below_drewN | apply below_drew1) | exact HB.out)⟩⟩
          · rw [if_neg c15] at H
            have c15b0 : (t127 == 0) = false := beq_eq_false_iff_ne.mpr c15
            have c15b1 : (t127 != 0) = true := bne_iff_ne.mpr c15
            (first | rw [c15b0] | (simp only [i64_w, i32_w]; rw [c15b0]) | skip)
            have H' := Aside0.mk H
            clear H
            go_wp2
            go_meet
            case rel => exact ⟨_, (true), (by first | rfl | (simp; done) | (simp [*]; done)), H', ⟨by have := HJ5.out; first | omega | exact Nat.le_refl _⟩, ⟨by (with_reducible repeat (first | apply Kd.R_alloc | apply Kd.R_drewN | apply Kd.R_drew)); exact HO_7.out⟩, ⟨by repeat (first | (with_reducible first | exact HB.out | apply below_alloc | apply pw_below_drewN | apply below_drew1) | exact HB.out)⟩⟩
        case rest =>
          clear HC14
          try clear c1
          try clear p2
          try clear c3
          try clear c9
          try clear c9b0
          try clear c9b1
          try clear c11
          try clear c12
          try clear c13
          try clear c15
          try clear c15b0
          try clear c15b1
          try clear p2
          obtain ⟨kq, x38_13, rfl, HA, HJ13, HO_7, HB⟩ := hcut
          cases kq with
          | zero => exact absurd HA.out (by simp [incunablelaw29_ScanChance.j1])
          | succ kj13 =>
            have H := HA.out
            clear HA
            simp only [incunablelaw29_ScanChance.j1] at H
            by_cases c16 : x38_13 = true
            · subst c16
              have H1 : ((incunablelaw29_Sane.f kj13).bind fun t135 => (some t135)) = some r := by rw [if_pos rfl] at H; exact H
              clear H
              have H := H1
              clear H1
              replace H := Option.bind_eq_some_iff.mp H
              obtain ⟨t135, A170, H⟩ := H
              replace H : (some t135) = some r := H
              have A17 := Aside0.mk A170
              clear A170
              obtain rfl := Option.some.inj H
              go_wp2_with (first | ((with_reducible refine gate_callee (f := 14) rfl ?_); refine goesL_ (some 39) rfl rfl Try.func14 (by kernel_rfl) rfl #[] rfl (by (try simp only [List.map_toArray, List.map_cons, List.map_nil]); first | done | rfl | (simp only [List.length_drop, List.length_take]; rfl)) ?_; (with_reducible refine (incunablelaw29_Sane.calls kj13  t135 _ A17.out).mono ?_); rintro e w18 ⟨rfl, hb⟩; refine ⟨_, rfl, ?_⟩; have n0_ := Aside0.mk (Kd.R_below (rU HO_7.out) hb); have n1_ := Aside0.mk (below_step (by repeat (first | (with_reducible first | exact HB.out | apply below_alloc | apply pw_below_drewN | apply below_drew1) | exact HB.out)) hb); clear HO_7; clear HB; have HO_7 := n0_; have HB := n1_; clear n0_ n1_; (try clear hb); (try clear hb2); (try clear hk); (try clear hi)))
              go_ret
              exact ⟨by first | rfl | (simp [errW_none, errW_some] <;> rfl) | (simp [*, errW_none, errW_some] <;> rfl), by repeat (first | (with_reducible first | exact HB.out | apply below_alloc | apply pw_below_drewN | apply below_drew1) | exact HB.out)⟩
            · replace c16 := Bool.eq_false_iff.mpr c16
              subst c16
              have H1 : (if a1 = 0 then (none) else ((scan_Chance.f kj13 a0 (Int.tmod (wrap64 ((Int.tmod a2 a1) + a1)) a1)).bind fun bt136 => (if bt136.2 = 0 then (if 0 ≤ (Int.tmod (wrap64 ((Int.tmod a2 a1) + a1)) a1) then (if (Int.tmod (wrap64 ((Int.tmod a2 a1) + a1)) a1) ≤ (t126.length : Int) then ((incunableref01_SameInts.f kj13 bt136.1 (t126.take ((Int.tmod (wrap64 ((Int.tmod a2 a1) + a1)) a1) : Int).toNat)).bind fun t144 => (if t144 = true then ((incunablelaw29_Sane.f kj13).bind fun t145 => (some t145)) else (some false))) else (none)) else (none)) else (some false)))) = some r := by rw [if_neg (show ¬ (false = true) by decide)] at H; exact H
              clear H
              have H := H1
              clear H1
              by_cases c19 : a1 = 0
              · rw [if_pos c19] at H
                exact absurd H (by simp)
              · rw [if_neg c19] at H
                have c19b0 : (a1 == 0) = false := beq_eq_false_iff_ne.mpr c19
                have c19b1 : (a1 != 0) = true := bne_iff_ne.mpr c19
                replace H := Option.bind_eq_some_iff.mp H
                obtain ⟨⟨t136, t137⟩, A200, H⟩ := H
                replace H : (if t137 = 0 then (if 0 ≤ (Int.tmod (wrap64 ((Int.tmod a2 a1) + a1)) a1) then (if (Int.tmod (wrap64 ((Int.tmod a2 a1) + a1)) a1) ≤ (t126.length : Int) then ((incunableref01_SameInts.f kj13 t136 (t126.take ((Int.tmod (wrap64 ((Int.tmod a2 a1) + a1)) a1) : Int).toNat)).bind fun t144 => (if t144 = true then ((incunablelaw29_Sane.f kj13).bind fun t145 => (some t145)) else (some false))) else (none)) else (none)) else (some false)) = some r := H
                have A20 := Aside0.mk A200
                clear A200
                by_cases c21 : t137 = 0
                · rw [if_pos c21] at H
                  have c21b0 : (t137 == 0) = true := beq_iff_eq.mpr c21
                  have c21b1 : (t137 != 0) = false := bne_eq_false_iff_eq.mpr c21
                  clear c21
                  obtain ⟨ji22, hji22⟩ : ∃ j_ : Int, (Int.tmod (wrap64 ((Int.tmod a2 a1) + a1)) a1) = j_ := ⟨_, rfl⟩
                  replace H : (if 0 ≤ (ji22) then (if (ji22) ≤ (t126.length : Int) then ((incunableref01_SameInts.f kj13 t136 (t126.take ((ji22) : Int).toNat)).bind fun t144 => (if t144 = true then ((incunablelaw29_Sane.f kj13).bind fun t145 => (some t145)) else (some false))) else (none)) else (none)) = some r := by first | (rw [hji22] at H; exact H) | (simp only [hji22] at H ⊢; exact H)
                  (try rw [hji22] at A20)
                  by_cases c23 : 0 ≤ (ji22)
                  · rw [if_pos c23] at H
                    have c23b0 := eq_true c23
                    have c23b1 : decide (0 ≤ (ji22)) = true := decide_eq_true c23
                    clear c23
                    by_cases c24 : (ji22) ≤ (t126.length : Int)
                    · rw [if_pos c24] at H
                      have c24b0 := eq_true c24
                      have c24b1 : decide ((ji22) ≤ (t126.length : Int)) = true := decide_eq_true c24
                      clear c24
                      obtain ⟨y140, hy140⟩ : ∃ y_ : List Int, y_ = (t126.take ((ji22) : Int).toNat) := ⟨_, rfl⟩
                      replace H : ((incunableref01_SameInts.f kj13 t136 y140).bind fun t144 => (if t144 = true then ((incunablelaw29_Sane.f kj13).bind fun t145 => (some t145)) else (some false))) = some r := by first | (rw [hy140]; with_reducible exact H) | (have H2_ := (Option.bind_some _ _).symm.trans H; rw [hy140]; with_reducible exact H2_) | (have H2_ := (Option.bind_some _ _).symm.trans H; with_reducible exact H2_) | with_reducible exact H | (rw [hy140]; exact H) | exact H
                      have Ny140 := Aside0.mk hy140
                      clear hy140
                      replace H := Option.bind_eq_some_iff.mp H
                      obtain ⟨t144, A250, H⟩ := H
                      replace H : (if t144 = true then ((incunablelaw29_Sane.f kj13).bind fun t145 => (some t145)) else (some false)) = some r := H
                      have A25 := Aside0.mk A250
                      clear A250
                      by_cases c26 : t144 = true
                      · subst c26
                        have H1 : ((incunablelaw29_Sane.f kj13).bind fun t145 => (some t145)) = some r := by rw [if_pos rfl] at H; exact H
                        clear H
                        have H := H1
                        clear H1
                        replace H := Option.bind_eq_some_iff.mp H
                        obtain ⟨t145, A270, H⟩ := H
                        replace H : (some t145) = some r := H
                        have A27 := Aside0.mk A270
                        clear A270
                        obtain rfl := Option.some.inj H
                        go_wp2_with (first | ((with_reducible refine gate_callee (f := 11) rfl ?_); refine goesL_ (some 50) rfl rfl Try.func11 (by kernel_rfl) rfl #[.int .i64 a0, .int .i64 ji22] rfl (by (try simp only [List.map_toArray, List.map_cons, List.map_nil]); first | done | (simp only [hji22]; rfl) | rfl | (simp only [List.length_drop, List.length_take]; rfl)) ?_; (with_reducible refine (scan_Chance.calls kj13 a0 ji22 t136 t137 _ A20.out).mono ?_); rintro e w28 ⟨v138, rfl, ho0, hb⟩; refine ⟨_, rfl, ?_⟩; have n0_ := Aside0.mk (Kd.R_elder' (rU HO_7.out) (Kd.R_base ho0) hb); have n1_ := Aside0.mk (Kd.R_lower (Kd.R_new' ho0 (Kd.R_lt (rU HO_7.out))) (below_size (by repeat (first | (with_reducible first | exact HB.out | apply below_alloc | apply pw_below_drewN | apply below_drew1) | exact HB.out)))); have n2_ := Aside0.mk (below_step (by repeat (first | (with_reducible first | exact HB.out | apply below_alloc | apply pw_below_drewN | apply below_drew1) | exact HB.out)) hb); clear HO_7; clear HB; have HO_7 := n0_; have HO139 := n1_; have HB := n2_; clear n0_ n1_ n2_; (try clear hb); (try clear hb2); (try clear hk); (try clear hi); (try clear ho0); obtain ⟨Ao30, co30, eo30⟩ := Kd.R_slice HO_7.out; subst eo30; have q29 : ((ji22) : Int) ≤ ((t126.length : Int) : Int) := of_decide_eq_true (by first | (with_reducible assumption) | assumption); obtain ⟨i029, hi029, _, hsz29, _⟩ := info_parts info3; have hroom29 : t126.length ≤ co30 := (Kd.R_reads' HO_7.out).2.1; have hC29 : Kd.C (Kd.int .i64) _ Ao30 t126.length t126 := (Kd.R_reads' HO_7.out).2.2; have hcut29 := cut_to (P := Try.prog) 22 3 .i64 Try.underlying22 hi029 Ao30 t126.length co30 (ji22) (of_decide_eq_true (by first | (with_reducible assumption) | assumption)) q29 hroom29; have hr29 := Kd.C_take (m := ((ji22) : Int).toNat) hC29 (by omega); have hy29 : y140.length = ((ji22) : Int).toNat := (by rw [Ny140.out, List.length_take]; omega); rw [← Ny140.out] at hr29; rw [← hy29] at hcut29; have HR143 := Aside0.mk hr29; have HC143 := Aside0.mk (show y140.length ≤ co30 from by omega); clear hr29 hC29 hroom29 hi029 hsz29; have KY29 := Aside0.mk hy29; clear hy29; have KL29 := Aside0.mk (show ((ji22) : Int).toNat ≤ t126.length from by omega); replace q29 := eq_true q29; obtain ⟨Ao31, co31, eo31⟩ := Kd.R_slice HO139.out; subst eo31) | (go_at_call 13; (with_reducible refine (incunableref01_SameInts.calls kj13 _ _ t136 _ _ y140 true _ ?side1 ?side2 ?side3 ?side4 A25.out).mono ?_); (case side1 => repeat (first | exact (Kd.R_reads' HO139.out).2.2 | (with_reducible refine Kd.C_alloc ?_ _) | (with_reducible refine Kd.C_drewN ?_ _) | (with_reducible refine Kd.C_drew ?_))); (case side2 => exact (Kd.R_reads' HO139.out).2.1); (case side3 => repeat (first | exact (by repeat (first | (with_reducible exact HR143.out) | (with_reducible refine Kd.C_alloc ?_ _) | (with_reducible refine Kd.C_drewN ?_ _) | (with_reducible refine Kd.C_drew ?_) | exact HR143.out)) | (with_reducible refine Kd.C_alloc ?_ _) | (with_reducible refine Kd.C_drewN ?_ _) | (with_reducible refine Kd.C_drew ?_))); (case side4 => exact HC143.out); rintro e w' ⟨rfl, ⟨nd, rfl⟩⟩) | (go_at_call 14; (with_reducible refine (incunablelaw29_Sane.calls kj13  t145 _ A27.out).mono ?_); rintro e w32 ⟨rfl, hb⟩; have n0_ := Aside0.mk (Kd.R_below (rU HO_7.out) hb); have n1_ := Aside0.mk (Kd.R_below (rU HO139.out) hb); have n2_ := Aside0.mk (Kd.C_below (by repeat (first | (with_reducible exact HR143.out) | (with_reducible refine Kd.C_alloc ?_ _) | (with_reducible refine Kd.C_drewN ?_ _) | (with_reducible refine Kd.C_drew ?_) | exact HR143.out)) hb); have n3_ := Aside0.mk (below_step (by repeat (first | (with_reducible first | exact HB.out | apply below_alloc | apply pw_below_drewN | apply below_drew1) | exact HB.out)) hb); clear HO_7; clear HO139; clear HR143; clear HB; have HO_7 := n0_; have HO139 := n1_; have HR143 := n2_; have HB := n3_; clear n0_ n1_ n2_ n3_; (try clear hb); (try clear hb2); (try clear hk); (try clear hi)))
                        go_ret
                        exact ⟨by first | rfl | (simp [errW_none, errW_some] <;> rfl) | (simp only [← hji22]; first | rfl | (simp [errW_none, errW_some] <;> rfl)) | (simp [*, errW_none, errW_some] <;> rfl), by repeat (first | (with_reducible first | exact HB.out | apply below_alloc | apply pw_below_drewN | apply below_drew1) | exact HB.out)⟩
                      · replace c26 := Bool.eq_false_iff.mpr c26
                        subst c26
                        have H1 : (some false) = some r := by rw [if_neg (show ¬ (false = true) by decide)] at H; exact H
                        clear H
                        have H := H1
                        clear H1
                        exact absurd ((Option.some.inj H).trans HR_.out) (by decide)
                    · rw [if_neg c24] at H
                      exact absurd H (by simp)
                  · rw [if_neg c23] at H
                    exact absurd H (by simp)
                · rw [if_neg c21] at H
                  have c21b0 : (t137 == 0) = false := beq_eq_false_iff_ne.mpr c21
                  have c21b1 : (t137 != 0) = true := bne_iff_ne.mpr c21
                  exact absurd ((Option.some.inj H).trans HR_.out) (by decide)

/-- THE ONE PURE STATEMENT of incunablelaw29_ScanChance: yours. -/
def incunablelaw29_ScanChance.Pure : Prop := ∀ (a0 : Int) (a1 : Int) (a2 : Int), ((Lit.int .i64 a0).wf = true) → ((Lit.int .i64 a1).wf = true) → ((Lit.int .i64 a2).wf = true) → ∃ k, incunablelaw29_ScanChance.f k a0 a1 a2 = some true
theorem incunablelaw29_ScanChance.walk (P : incunablelaw29_ScanChance.Pure) (a0 : Int) (a1 : Int) (a2 : Int) (w : World)  (g0 : (Lit.int .i64 a0).wf = true) (g1 : (Lit.int .i64 a1).wf = true) (g2 : (Lit.int .i64 a2).wf = true) :
    Calls Try.prog 3 #[.int .i64 a0, .int .i64 a1, .int .i64 a2] w fun e w' => e = .returned (.bool true) ∧ Below w.heap.size w w' := by
  obtain ⟨k, h⟩ := P a0 a1 a2 g0 g1 g2
  refine (incunablelaw29_ScanChance.calls k a0 a1 a2 true w h rfl).mono ?_
  rintro e w' ⟨rfl, hd⟩
  exact ⟨rfl, hd⟩

end Go.Proofs.Ytkncofhgmcpagaa.PScanChance
