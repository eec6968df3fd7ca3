-- Written by a program of this session (wip/tools/myprint.py) over the kit's print. Not trusted: Lean checks it.
import Derived.Test.YtaflekobfbgedaaPShapeDrawsx0
import Derived.Test.YtaflekobfbgedaaPShapeDrawsx4
import Derived.Test.YtaflekobfbgedaaPShapeDrawsx7
import Derived.Test.YtaflekobfbgedaaPShapeDrawsx10
namespace Go.Proofs.Ytaflekobfbgedaa.PShapeDraws
open Go.RowKit Go.Proofs.YtaflekobfbgedaaW.PrintWords Go.Proofs.YtaflekobfbgedaaW.PrintLast Go.Proofs.YtaflekobfbgedaaW.PrintMore
attribute [local go_sem] max2_int min2_int max_two min_two max_three min_three max_four min_four   -- for this text's walks alone
set_option linter.unusedVariables false
set_option linter.unusedSimpArgs false

/-! ### incunablelaw15_ShapeDraws: function 6 -/
mutual
def incunablelaw15_ShapeDraws.j0 : Nat → Int → Int → List (S48) → Int → Int → Bool → Int → Int → List Int → Option (Bool)
  | 0, _, _, _, _, _, _, _, _, _ => none
  | k + 1, x3, x4, x5, x6, x8, x48, x315000, x315001, x315002 => if x48 = true then (some false) else (if x8 = 0 then (incunablelaw15_ShapeDraws.j1 k x3 x4 x5 x6 ((x5.length : Int) == 0) x315000 x315001 x315002) else (incunablelaw15_ShapeDraws.j1 k x3 x4 x5 x6 true x315000 x315001 x315002))
def incunablelaw15_ShapeDraws.j1 : Nat → Int → Int → List (S48) → Int → Bool → Int → Int → List Int → Option (Bool)
  | 0, _, _, _, _, _, _, _, _ => none
  | k + 1, x3, x4, x5, x6, x55, x315000, x315001, x315002 => if x55 = true then ((incunablelaw15_Sane.f k).bind fun t323 => (some t323)) else (if (x5.length : Int) = 0 then (none) else ((some (([] : List (S48)) : List (S48))).bind fun y324 => (if 0 ≤ (Int.tmod (wrap64 ((Int.tmod x6 (x5.length : Int)) + (x5.length : Int))) (x5.length : Int)) then (if (Int.tmod (wrap64 ((Int.tmod x6 (x5.length : Int)) + (x5.length : Int))) (x5.length : Int)) ≤ (x5.length : Int) then ((some (x5.drop ((Int.tmod (wrap64 ((Int.tmod x6 (x5.length : Int)) + (x5.length : Int))) (x5.length : Int)) : Int).toNat : List (S48))).bind fun y327 => (if y324.length + y327.length < 2513169434916 then ((some (y324 ++ y327 : List (S48))).bind fun y332 => ((some (x5.take ((Int.tmod (wrap64 ((Int.tmod x6 (x5.length : Int)) + (x5.length : Int))) (x5.length : Int)) : Int).toNat : List (S48))).bind fun y335 => (if y332.length + y335.length < 2513169434916 then ((shape_Draw.f k x3 x4 (y332 ++ y335)).bind fun bt343 => (if bt343.2.2.2 = 0 then ((incunableref05_Same.f bt343.1 bt343.2.1 bt343.2.2.1 x315000 x315001 x315002).bind fun t350 => (if t350 = true then ((incunablelaw15_Sane.f k).bind fun t351 => (some t351)) else (some false))) else (some false))) else (none)))) else (none))) else (none)) else (none))))
end
def incunablelaw15_ShapeDraws.f (k : Nat) (a0_0 : Int) (a0_1 : Int) (l0_2 : List (S48)) (a0_3 : Int) : Option (Bool) := (incunablelaw15_count.f k l0_2).bind fun t306 => (if t306 > 5000 then ((incunablelaw15_Sane.f k).bind fun t307 => (some t307)) else ((shape_Draw.f k a0_0 a0_1 l0_2).bind fun bt308 => ((incunableref15_Draw.f k a0_0 a0_1 l0_2).bind fun bt315 => (if bt308.2.2.2 = bt315.2.2.2 then ((incunableref05_Same.f bt308.1 bt308.2.1 bt308.2.2.1 bt315.1 bt315.2.1 bt315.2.2.1).bind fun t322 => (incunablelaw15_ShapeDraws.j0 k a0_0 a0_1 l0_2 a0_3 bt308.2.2.2 (!t322) bt308.1 bt308.2.1 bt308.2.2.1)) else (incunablelaw15_ShapeDraws.j0 k a0_0 a0_1 l0_2 a0_3 bt308.2.2.2 true bt308.1 bt308.2.1 bt308.2.2.1)))))
theorem incunablelaw15_ShapeDraws.mono_l : ∀ k, (∀ y0 y1 y2 y3 y4 y5 y6 y7 y8, LeO (incunablelaw15_ShapeDraws.j0 k y0 y1 y2 y3 y4 y5 y6 y7 y8) (incunablelaw15_ShapeDraws.j0 (k + 1) y0 y1 y2 y3 y4 y5 y6 y7 y8)) ∧ (∀ y0 y1 y2 y3 y4 y5 y6 y7, LeO (incunablelaw15_ShapeDraws.j1 k y0 y1 y2 y3 y4 y5 y6 y7) (incunablelaw15_ShapeDraws.j1 (k + 1) y0 y1 y2 y3 y4 y5 y6 y7))
  | 0 => ⟨fun _ _ _ _ _ _ _ _ _ r h => by simp [incunablelaw15_ShapeDraws.j0] at h, fun _ _ _ _ _ _ _ _ r h => by simp [incunablelaw15_ShapeDraws.j1] at h⟩
  | k + 1 => by
    obtain ⟨ih0, ih1⟩ := incunablelaw15_ShapeDraws.mono_l k
    refine ⟨?_, ?_⟩
    · intro y0 y1 y2 y3 y4 y5 y6 y7 y8
      unfold incunablelaw15_ShapeDraws.j0
      repeat' first
      | (with_reducible exact ih0 _ _ _ _ _ _ _ _ _)
      | (with_reducible exact ih1 _ _ _ _ _ _ _ _)
      | (with_reducible exact incunablelaw15_Sane.mono _)
      | (with_reducible exact incunablelaw15_count.mono _ _)
      | (with_reducible exact incunableref15_Draw.mono _ _ _ _)
      | (with_reducible exact shape_Draw.mono _ _ _ _)
      | (with_reducible exact LeO.refl _)
      | (with_reducible exact LeO.none _)
      | (with_reducible refine LeO.ite ?_ ?_)
      | (with_reducible refine LeO.bind ?_ (fun _ => ?_))
      | exact ih0 _ _ _ _ _ _ _ _ _
      | exact ih1 _ _ _ _ _ _ _ _
      | exact incunablelaw15_Sane.mono _
      | exact incunablelaw15_count.mono _ _
      | exact incunableref15_Draw.mono _ _ _ _
      | exact shape_Draw.mono _ _ _ _
      | exact LeO.none _
      | refine LeO.ite ?_ ?_
      | refine LeO.bind ?_ (fun _ => ?_)
    · intro y0 y1 y2 y3 y4 y5 y6 y7
      unfold incunablelaw15_ShapeDraws.j1
      repeat' first
      | (with_reducible exact ih0 _ _ _ _ _ _ _ _ _)
      | (with_reducible exact ih1 _ _ _ _ _ _ _ _)
      | (with_reducible exact incunablelaw15_Sane.mono _)
      | (with_reducible exact incunablelaw15_count.mono _ _)
      | (with_reducible exact incunableref15_Draw.mono _ _ _ _)
      | (with_reducible exact shape_Draw.mono _ _ _ _)
      | (with_reducible exact LeO.refl _)
      | (with_reducible exact LeO.none _)
      | (with_reducible refine LeO.ite ?_ ?_)
      | (with_reducible refine LeO.bind ?_ (fun _ => ?_))
      | exact ih0 _ _ _ _ _ _ _ _ _
      | exact ih1 _ _ _ _ _ _ _ _
      | exact incunablelaw15_Sane.mono _
      | exact incunablelaw15_count.mono _ _
      | exact incunableref15_Draw.mono _ _ _ _
      | exact shape_Draw.mono _ _ _ _
      | exact LeO.none _
      | refine LeO.ite ?_ ?_
      | refine LeO.bind ?_ (fun _ => ?_)
theorem incunablelaw15_ShapeDraws.mono : ∀ a0 a1 a2 a3 k, LeO (incunablelaw15_ShapeDraws.f k a0 a1 a2 a3) (incunablelaw15_ShapeDraws.f (k + 1) a0 a1 a2 a3) := by
  intro a0 a1 a2 a3 k
  obtain ⟨ih0, ih1⟩ := incunablelaw15_ShapeDraws.mono_l k
  unfold incunablelaw15_ShapeDraws.f
  repeat' first
      | (with_reducible exact ih0 _ _ _ _ _ _ _ _ _)
      | (with_reducible exact ih1 _ _ _ _ _ _ _ _)
      | (with_reducible exact incunablelaw15_Sane.mono _)
      | (with_reducible exact incunablelaw15_count.mono _ _)
      | (with_reducible exact incunableref15_Draw.mono _ _ _ _)
      | (with_reducible exact shape_Draw.mono _ _ _ _)
      | (with_reducible exact LeO.refl _)
      | (with_reducible exact LeO.none _)
      | (with_reducible refine LeO.ite ?_ ?_)
      | (with_reducible refine LeO.bind ?_ (fun _ => ?_))
      | exact ih0 _ _ _ _ _ _ _ _ _
      | exact ih1 _ _ _ _ _ _ _ _
      | exact incunablelaw15_Sane.mono _
      | exact incunablelaw15_count.mono _ _
      | exact incunableref15_Draw.mono _ _ _ _
      | exact shape_Draw.mono _ _ _ _
      | exact LeO.none _
      | refine LeO.ite ?_ ?_
      | refine LeO.bind ?_ (fun _ => ?_)
def incunablelaw15_ShapeDraws.T1 : Bool × List (List Nat × List Nat) := (true, [([], []), ([0], [0]), ([], []), ([2], [2]), ([], []), ([4], [4]), ([], []), ([6], [6]), ([1, 0, 1], [1]), ([3, 8, 0, 1, 2, 3, 8], [3]), ([5, 9, 0, 1, 2, 3, 4, 5, 8, 9], [5]), ([7, 10, 0, 1, 2, 3, 4, 5, 6, 7, 8, 9, 10], [7])])
def incunablelaw15_ShapeDraws.B1 : List Nat := [0, 1, 0, 4, 0, 16, 0, 64, 3, 271, 831, 2047]
theorem incunablelaw15_ShapeDraws.tab1 : rtab .any (opsOf Try.f6 1) = incunablelaw15_ShapeDraws.T1 := by kernel_rfl
theorem incunablelaw15_ShapeDraws.bits1 : waitsOk incunablelaw15_ShapeDraws.T1.2 incunablelaw15_ShapeDraws.B1 = true := by kernel_rfl
def incunablelaw15_ShapeDraws.T11 : Bool × List (List Nat × List Nat) := (true, [([], []), ([], []), ([], []), ([1, 2], [1, 2]), ([0, 3], [0, 3]), ([], []), ([], []), ([5, 6], [5, 6]), ([4, 7, 4], [4, 7]), ([8, 8, 0, 1, 2, 3, 4, 5, 6, 7, 8], [8])])
def incunablelaw15_ShapeDraws.B11 : List Nat := [0, 0, 0, 6, 15, 0, 0, 96, 255, 511]
theorem incunablelaw15_ShapeDraws.tab11 : rtab .any (opsOf Try.f6 11) = incunablelaw15_ShapeDraws.T11 := by kernel_rfl
theorem incunablelaw15_ShapeDraws.bits11 : waitsOk incunablelaw15_ShapeDraws.T11.2 incunablelaw15_ShapeDraws.B11 = true := by kernel_rfl
set_option maxHeartbeats 8000000 in
set_option maxRecDepth 100000 in
theorem incunablelaw15_ShapeDraws.calls (k : Nat) (a0_0 : Int) (a0_1 : Int) (P0_2_ : Nat → Prop) (A0_2 : Option Addr) (c0_2 : Nat) (l0_2 : List (S48)) (a0_3 : Int) (r : Bool) (w : World) (hs0_2 : Kd.V k48 48 w w.heap.size (fun k_ => P0_2_ k_) (.slice A0_2 l0_2.length c0_2) l0_2) (h : incunablelaw15_ShapeDraws.f k a0_0 a0_1 l0_2 a0_3 = some r) (hr_ : r = true) :
    Calls Try.prog 6 #[.agg #[.int .i64 a0_0, .int .i64 a0_1, .slice A0_2 l0_2.length c0_2, .int .i64 a0_3]] w fun e w' => e = .returned (.bool r) ∧ Below w.heap.size w w' := by
  have HR_ := Aside0.mk hr_
  clear hr_
  have hu50 := Try.underlying50
  have hu24 := Try.underlying24
  have HO0_2 := Aside0.mk (show Kd.V k48 48 w w.heap.size (fun k_ => (P0_2_ k_ ∨ w.heap.size ≤ k_)) (.slice A0_2 l0_2.length c0_2) l0_2 from Kd.V_mono hs0_2 (fun k_ hk => .inl hk))
  have HB := Aside0.mk (Below.refl w.heap.size w)
  have H : ((incunablelaw15_count.f k l0_2).bind fun t306 => (if t306 > 5000 then ((incunablelaw15_Sane.f k).bind fun t307 => (some t307)) else ((shape_Draw.f k a0_0 a0_1 l0_2).bind fun bt308 => ((incunableref15_Draw.f k a0_0 a0_1 l0_2).bind fun bt315 => (if bt308.2.2.2 = bt315.2.2.2 then ((incunableref05_Same.f bt308.1 bt308.2.1 bt308.2.2.1 bt315.1 bt315.2.1 bt315.2.2.1).bind fun t322 => (incunablelaw15_ShapeDraws.j0 k a0_0 a0_1 l0_2 a0_3 bt308.2.2.2 (!t322) bt308.1 bt308.2.1 bt308.2.2.1)) else (incunablelaw15_ShapeDraws.j0 k a0_0 a0_1 l0_2 a0_3 bt308.2.2.2 true bt308.1 bt308.2.1 bt308.2.2.1)))))) = some r := h
  clear h
  replace H := Option.bind_eq_some_iff.mp H
  obtain ⟨t306, A20, H⟩ := H
  replace H : (if t306 > 5000 then ((incunablelaw15_Sane.f k).bind fun t307 => (some t307)) else ((shape_Draw.f k a0_0 a0_1 l0_2).bind fun bt308 => ((incunableref15_Draw.f k a0_0 a0_1 l0_2).bind fun bt315 => (if bt308.2.2.2 = bt315.2.2.2 then ((incunableref05_Same.f bt308.1 bt308.2.1 bt308.2.2.1 bt315.1 bt315.2.1 bt315.2.2.1).bind fun t322 => (incunablelaw15_ShapeDraws.j0 k a0_0 a0_1 l0_2 a0_3 bt308.2.2.2 (!t322) bt308.1 bt308.2.1 bt308.2.2.1)) else (incunablelaw15_ShapeDraws.j0 k a0_0 a0_1 l0_2 a0_3 bt308.2.2.2 true bt308.1 bt308.2.1 bt308.2.2.1))))) = some r := H
  have A2 := Aside0.mk A20
  clear A20
  by_cases c3 : t306 > 5000
  · rw [if_pos c3] at H
    have c3b0 : decide (5000 < t306) = true := decide_eq_true c3
    clear c3
    replace H := Option.bind_eq_some_iff.mp H
    obtain ⟨t307, A40, H⟩ := H
    replace H : (some t307) = some r := H
    have A4 := Aside0.mk A40
    clear A40
    obtain rfl := Option.some.inj H
    go_enter Try.func6, Try.ntmps6
    try go_wp2_with (first | ((with_reducible refine gate_dst (N := 1) rfl ?_); (try (refine gate_guard (by rfl) ?_; dsimp only)); refine box_event ?hg (N := 1) ?hd (cs := #[.int .i64 a0_0, .int .i64 a0_1, .slice A0_2 l0_2.length c0_2, .int .i64 a0_3]) (t := 50) ?hr ?_; (case hd => rfl); (case hg => rfl); (case hr => first | (go_simp; done) | (go_simp; rfl)); intro gb305 hg w5 hbox hb; have n0_ := Aside0.mk (Kd.V_below (Kd.V_elderB (by (with_reducible repeat (first | apply Kd.V_alloc | apply Kd.V_drewN | apply Kd.V_drew)); exact HO0_2.out) gb305 (Nat.le_of_eq hg.symm)) hb); have n1_ := Aside0.mk (below_step (by repeat (first | (with_reducible first | exact HB.out | apply below_alloc | apply pw_below_drewN | apply below_drew1) | exact HB.out)) hb); have n2_ := Aside0.mk (hbox); have n3_ := Aside0.mk ((by rw [hg]; exact (below_size (by repeat (first | (with_reducible first | exact HB.out | apply below_alloc | apply pw_below_drewN | apply below_drew1) | exact HB.out))) : w.heap.size ≤ gb305)); have n4_ := Aside0.mk ((by rw [hg]; exact (below_size (by repeat (first | (with_reducible first | exact HB.out | apply below_alloc | apply pw_below_drewN | apply below_drew1) | exact HB.out))) : w.heap.size ≤ gb305)); clear HO0_2; clear HB; have HO0_2 := n0_; have HB := n1_; have BK305 := n2_; have GW305 := n3_; have GE305 := n4_; clear n0_ n1_ n2_ n3_ n4_; clear hb hbox hg))
    have n0_ := Aside0.mk (Kd.V_drew HO0_2.out)
    have n1_ := Aside0.mk (blk_drew BK305.out)
    have n2_ := Aside0.mk (below_drew1 HB.out)
    clear HO0_2
    clear BK305
    clear HB
    have HO0_2 := n0_
    have BK305 := n1_
    have HB := n2_
    clear n0_ n1_ n2_
    refine start_ (n := 12) (S := fun w' => w'.cell? ⟨gb305, 0, none⟩ = some (.int .i64 a0_0) ∧ w'.cell? ⟨gb305, 1, none⟩ = some (.int .i64 a0_1) ∧ w'.cell? ⟨gb305, 2, none⟩ = some (.slice A0_2 l0_2.length c0_2) ∧ w'.cell? ⟨gb305, 3, none⟩ = some (.int .i64 a0_3)) (ds := []) #[false, false, false, false, false, false, false, false, false, false, false, false] (by kernel_rfl) rfl rfl ⟨(blk_cell BK305.out 0).trans rfl, (blk_cell BK305.out 1).trans rfl, (blk_cell BK305.out 2).trans rfl, (blk_cell BK305.out 3).trans rfl⟩ (fun hHeld => ?_); refine with_tabW incunablelaw15_ShapeDraws.tab1 incunablelaw15_ShapeDraws.bits1 (fun HT_ HW_ => ?_)
    generalize w5.drew = w6 at HO0_2 BK305 HB hHeld ⊢
    refine pure_ (i := 0) (N := some 14) (v := ?_) (a' := ?_) #[true, false, false, false, false, false, false, false, false, false, false, false] rfl rfl (any_of HT_.out (by kernel_rfl)) (fun _ _ _ h => h) (Or.inl ⟨by rfl, ?_⟩) ?_ ?_
    rotate_left
    · intro w'
      go_simp
      with_reducible rfl
    rotate_left
    · simp only [Act.put, List.setIfInBounds_toArray, List.set_cons_zero, List.set_cons_succ, i64_w, i32_w]
      rfl
    refine pure_ (i := 2) (N := some 16) (v := ?_) (a' := ?_) #[true, false, true, false, false, false, false, false, false, false, false, false] rfl rfl (any_of HT_.out (by kernel_rfl)) (fun _ _ _ h => h) (Or.inl ⟨by rfl, ?_⟩) ?_ ?_
    rotate_left
    · intro w'
      go_simp
      with_reducible rfl
    rotate_left
    · simp only [Act.put, List.setIfInBounds_toArray, List.set_cons_zero, List.set_cons_succ, i64_w, i32_w]
      rfl
    refine pure_ (i := 4) (N := some 18) (v := ?_) (a' := ?_) #[true, false, true, false, true, false, false, false, false, false, false, false] rfl rfl (any_of HT_.out (by kernel_rfl)) (fun _ _ _ h => h) (Or.inl ⟨by rfl, ?_⟩) ?_ ?_
    rotate_left
    · intro w'
      go_simp
      with_reducible rfl
    rotate_left
    · simp only [Act.put, List.setIfInBounds_toArray, List.set_cons_zero, List.set_cons_succ, i64_w, i32_w]
      rfl
    refine pure_ (i := 6) (N := some 20) (v := ?_) (a' := ?_) #[true, false, true, false, true, false, true, false, false, false, false, false] rfl rfl (any_of HT_.out (by kernel_rfl)) (fun _ _ _ h => h) (Or.inl ⟨by rfl, ?_⟩) ?_ ?_
    rotate_left
    · intro w'
      go_simp
      with_reducible rfl
    rotate_left
    · simp only [Act.put, List.setIfInBounds_toArray, List.set_cons_zero, List.set_cons_succ, i64_w, i32_w]
      rfl
    refine take_ (i := 1) (N := some 15) (v := ?_) (a' := ?_) #[true, true, true, false, true, false, true, false, false, false, false, false] rfl rfl (take_ofW HT_.out HW_.out (by kernel_rfl)) (fun _ _ _ h => h) (Or.inl ⟨by rfl, ?_⟩) hHeld ?_ ?_
    rotate_left
    · rintro w' ⟨s0, s1, s2, s3⟩
      go_simp
      with_reducible rfl
    rotate_left
    · simp only [Act.put, List.setIfInBounds_toArray, List.set_cons_zero, List.set_cons_succ, i64_w, i32_w]
      rfl
    refine pure_ (i := 8) (N := some 3) (v := ?_) (a' := ?_) #[true, true, true, false, true, false, true, false, true, false, false, false] rfl rfl (any_of HT_.out (by kernel_rfl)) (fun _ _ _ h => h) (Or.inl ⟨by rfl, ?_⟩) ?_ ?_
    rotate_left
    · intro w'
      go_simp
      with_reducible rfl
    rotate_left
    · simp only [Act.put, List.setIfInBounds_toArray, List.set_cons_zero, List.set_cons_succ, i64_w, i32_w]
      rfl
    refine take_ (i := 3) (N := some 17) (v := ?_) (a' := ?_) #[true, true, true, true, true, false, true, false, true, false, false, false] rfl rfl (take_ofW HT_.out HW_.out (by kernel_rfl)) (fun _ _ _ h => h) (Or.inl ⟨by rfl, ?_⟩) hHeld ?_ ?_
    rotate_left
    · rintro w' ⟨s0, s1, s2, s3⟩
      go_simp
      with_reducible rfl
    rotate_left
    · simp only [Act.put, List.setIfInBounds_toArray, List.set_cons_zero, List.set_cons_succ, i64_w, i32_w]
      rfl
    refine pure_ (i := 9) (N := some 4) (v := ?_) (a' := ?_) #[true, true, true, true, true, false, true, false, true, true, false, false] rfl rfl (any_of HT_.out (by kernel_rfl)) (fun _ _ _ h => h) (Or.inl ⟨by rfl, ?_⟩) ?_ ?_
    rotate_left
    · intro w'
      go_simp
      with_reducible rfl
    rotate_left
    · simp only [Act.put, List.setIfInBounds_toArray, List.set_cons_zero, List.set_cons_succ, i64_w, i32_w]
      rfl
    refine take_ (i := 5) (N := some 19) (v := ?_) (a' := ?_) #[true, true, true, true, true, true, true, false, true, true, false, false] rfl rfl (take_ofW HT_.out HW_.out (by kernel_rfl)) (fun _ _ _ h => h) (Or.inl ⟨by rfl, ?_⟩) hHeld ?_ ?_
    rotate_left
    · rintro w' ⟨s0, s1, s2, s3⟩
      go_simp
      with_reducible rfl
    rotate_left
    · simp only [Act.put, List.setIfInBounds_toArray, List.set_cons_zero, List.set_cons_succ, i64_w, i32_w]
      rfl
    refine pure_ (i := 10) (N := some 5) (v := ?_) (a' := ?_) #[true, true, true, true, true, true, true, false, true, true, true, false] rfl rfl (any_of HT_.out (by kernel_rfl)) (fun _ _ _ h => h) (Or.inl ⟨by rfl, ?_⟩) ?_ ?_
    rotate_left
    · intro w'
      go_simp
      with_reducible rfl
    rotate_left
    · simp only [Act.put, List.setIfInBounds_toArray, List.set_cons_zero, List.set_cons_succ, i64_w, i32_w]
      rfl
    refine take_ (i := 7) (N := some 21) (v := ?_) (a' := ?_) #[true, true, true, true, true, true, true, true, true, true, true, false] rfl rfl (take_ofW HT_.out HW_.out (by kernel_rfl)) (fun _ _ _ h => h) (Or.inl ⟨by rfl, ?_⟩) hHeld ?_ ?_
    rotate_left
    · rintro w' ⟨s0, s1, s2, s3⟩
      go_simp
      with_reducible rfl
    rotate_left
    · simp only [Act.put, List.setIfInBounds_toArray, List.set_cons_zero, List.set_cons_succ, i64_w, i32_w]
      rfl
    refine pure_ (i := 11) (N := some 6) (v := ?_) (a' := ?_) #[true, true, true, true, true, true, true, true, true, true, true, true] rfl rfl (any_of HT_.out (by kernel_rfl)) (fun _ _ _ h => h) (Or.inl ⟨by rfl, ?_⟩) ?_ ?_
    rotate_left
    · intro w'
      go_simp
      with_reducible rfl
    rotate_left
    · simp only [Act.put, List.setIfInBounds_toArray, List.set_cons_zero, List.set_cons_succ, i64_w, i32_w]
      rfl
    refine done_ (done_of HT_.out (by kernel_rfl)) ?_
    try go_wp2_with (first | ((with_reducible refine gate_callee (f := 27) rfl ?_); refine goesL_ (some 23) rfl rfl Try.func27 (by kernel_rfl) rfl #[.slice A0_2 l0_2.length c0_2] rfl (by (try simp only [List.map_toArray, List.map_cons, List.map_nil]); first | done | rfl | (simp only [List.length_drop, List.length_take]; rfl)) ?_; (with_reducible refine (incunablelaw15_count.calls k _ _ l0_2 t306 _ ?side1 ?side2 A2.out).mono ?_); (case side1 => repeat (first | exact (Kd.V_reads' HO0_2.out).2.2 | (with_reducible refine Kd.C_alloc ?_ _) | (with_reducible refine Kd.C_drewN ?_ _) | (with_reducible refine Kd.C_drew ?_))); (case side2 => exact (Kd.V_reads' HO0_2.out).2.1); rintro e w' ⟨rfl, ⟨nd, rfl⟩⟩; refine ⟨_, rfl, ?_⟩) | ((with_reducible refine gate_callee (f := 11) rfl ?_); refine goesL_ (some 25) rfl rfl Try.func11 (by kernel_rfl) rfl #[] rfl (by (try simp only [List.map_toArray, List.map_cons, List.map_nil]); first | done | rfl | (simp only [List.length_drop, List.length_take]; rfl)) ?_; (with_reducible refine (incunablelaw15_Sane.calls k  t307 _ A4.out).mono ?_); rintro e w7 ⟨rfl, hb⟩; refine ⟨_, rfl, ?_⟩; have n0_ := Aside0.mk (Kd.V_below (by (with_reducible repeat (first | apply Kd.V_alloc | apply Kd.V_drewN | apply Kd.V_drew)); exact HO0_2.out) hb); have n1_ := Aside0.mk (blk_below (bU BK305.out) hb); have n2_ := Aside0.mk (below_step (by repeat (first | (with_reducible first | exact HB.out | apply below_alloc | apply pw_below_drewN | apply below_drew1 | refine below_set ?_ GE305.out) | exact HB.out)) hb); clear HO0_2; clear BK305; clear HB; have HO0_2 := n0_; have BK305 := n1_; have HB := n2_; clear n0_ n1_ n2_; (try clear hb); (try clear hb2); (try clear hk); (try clear hi)))
    go_ret
    exact ⟨by first | rfl | (simp [errW_none, errW_some] <;> rfl) | (simp [*, errW_none, errW_some] <;> rfl), by repeat (first | (with_reducible first | exact HB.out | apply below_alloc | apply pw_below_drewN | apply below_drew1 | refine below_set ?_ GE305.out) | exact HB.out)⟩
  · rw [if_neg c3] at H
    have c3b0 : decide (5000 < t306) = false := decide_eq_false c3
    clear c3
    replace H := Option.bind_eq_some_iff.mp H
    obtain ⟨⟨t308, t309, t310, t313⟩, A80, H⟩ := H
    replace H : ((incunableref15_Draw.f k a0_0 a0_1 l0_2).bind fun bt315 => (if t313 = bt315.2.2.2 then ((incunableref05_Same.f t308 t309 t310 bt315.1 bt315.2.1 bt315.2.2.1).bind fun t322 => (incunablelaw15_ShapeDraws.j0 k a0_0 a0_1 l0_2 a0_3 t313 (!t322) t308 t309 t310)) else (incunablelaw15_ShapeDraws.j0 k a0_0 a0_1 l0_2 a0_3 t313 true t308 t309 t310))) = some r := H
    have A8 := Aside0.mk A80
    clear A80
    replace H := Option.bind_eq_some_iff.mp H
    obtain ⟨⟨t315, t316, t317, t320⟩, A90, H⟩ := H
    replace H : (if t313 = t320 then ((incunableref05_Same.f t308 t309 t310 t315 t316 t317).bind fun t322 => (incunablelaw15_ShapeDraws.j0 k a0_0 a0_1 l0_2 a0_3 t313 (!t322) t308 t309 t310)) else (incunablelaw15_ShapeDraws.j0 k a0_0 a0_1 l0_2 a0_3 t313 true t308 t309 t310)) = some r := H
    have A9 := Aside0.mk A90
    clear A90
    have HC10 := Aside0.mk H
    clear H
    go_enter Try.func6, Try.ntmps6
    try go_wp2_with (first | ((with_reducible refine gate_dst (N := 1) rfl ?_); (try (refine gate_guard (by rfl) ?_; dsimp only)); refine box_event ?hg (N := 1) ?hd (cs := #[.int .i64 a0_0, .int .i64 a0_1, .slice A0_2 l0_2.length c0_2, .int .i64 a0_3]) (t := 50) ?hr ?_; (case hd => rfl); (case hg => rfl); (case hr => first | (go_simp; done) | (go_simp; rfl)); intro gb305 hg w11 hbox hb; have n0_ := Aside0.mk (Kd.V_below (Kd.V_elderB (by (with_reducible repeat (first | apply Kd.V_alloc | apply Kd.V_drewN | apply Kd.V_drew)); exact HO0_2.out) gb305 (Nat.le_of_eq hg.symm)) hb); have n1_ := Aside0.mk (below_step (by repeat (first | (with_reducible first | exact HB.out | apply below_alloc | apply pw_below_drewN | apply below_drew1) | exact HB.out)) hb); have n2_ := Aside0.mk (hbox); have n3_ := Aside0.mk ((by rw [hg]; exact (below_size (by repeat (first | (with_reducible first | exact HB.out | apply below_alloc | apply pw_below_drewN | apply below_drew1) | exact HB.out))) : w.heap.size ≤ gb305)); have n4_ := Aside0.mk ((by rw [hg]; exact (below_size (by repeat (first | (with_reducible first | exact HB.out | apply below_alloc | apply pw_below_drewN | apply below_drew1) | exact HB.out))) : w.heap.size ≤ gb305)); clear HO0_2; clear HB; have HO0_2 := n0_; have HB := n1_; have BK305 := n2_; have GW305 := n3_; have GE305 := n4_; clear n0_ n1_ n2_ n3_ n4_; clear hb hbox hg))
    have n0_ := Aside0.mk (Kd.V_drew HO0_2.out)
    have n1_ := Aside0.mk (blk_drew BK305.out)
    have n2_ := Aside0.mk (below_drew1 HB.out)
    clear HO0_2
    clear BK305
    clear HB
    have HO0_2 := n0_
    have BK305 := n1_
    have HB := n2_
    clear n0_ n1_ n2_
    refine start_ (n := 12) (S := fun w' => w'.cell? ⟨gb305, 0, none⟩ = some (.int .i64 a0_0) ∧ w'.cell? ⟨gb305, 1, none⟩ = some (.int .i64 a0_1) ∧ w'.cell? ⟨gb305, 2, none⟩ = some (.slice A0_2 l0_2.length c0_2) ∧ w'.cell? ⟨gb305, 3, none⟩ = some (.int .i64 a0_3)) (ds := []) #[false, false, false, false, false, false, false, false, false, false, false, false] (by kernel_rfl) rfl rfl ⟨(blk_cell BK305.out 0).trans rfl, (blk_cell BK305.out 1).trans rfl, (blk_cell BK305.out 2).trans rfl, (blk_cell BK305.out 3).trans rfl⟩ (fun hHeld => ?_); refine with_tabW incunablelaw15_ShapeDraws.tab1 incunablelaw15_ShapeDraws.bits1 (fun HT_ HW_ => ?_)
    generalize w11.drew = w12 at HO0_2 BK305 HB hHeld ⊢
    refine pure_ (i := 0) (N := some 14) (v := ?_) (a' := ?_) #[true, false, false, false, false, false, false, false, false, false, false, false] rfl rfl (any_of HT_.out (by kernel_rfl)) (fun _ _ _ h => h) (Or.inl ⟨by rfl, ?_⟩) ?_ ?_
    rotate_left
    · intro w'
      go_simp
      with_reducible rfl
    rotate_left
    · simp only [Act.put, List.setIfInBounds_toArray, List.set_cons_zero, List.set_cons_succ, i64_w, i32_w]
      rfl
    refine pure_ (i := 2) (N := some 16) (v := ?_) (a' := ?_) #[true, false, true, false, false, false, false, false, false, false, false, false] rfl rfl (any_of HT_.out (by kernel_rfl)) (fun _ _ _ h => h) (Or.inl ⟨by rfl, ?_⟩) ?_ ?_
    rotate_left
    · intro w'
      go_simp
      with_reducible rfl
    rotate_left
    · simp only [Act.put, List.setIfInBounds_toArray, List.set_cons_zero, List.set_cons_succ, i64_w, i32_w]
      rfl
    refine pure_ (i := 4) (N := some 18) (v := ?_) (a' := ?_) #[true, false, true, false, true, false, false, false, false, false, false, false] rfl rfl (any_of HT_.out (by kernel_rfl)) (fun _ _ _ h => h) (Or.inl ⟨by rfl, ?_⟩) ?_ ?_
    rotate_left
    · intro w'
      go_simp
      with_reducible rfl
    rotate_left
    · simp only [Act.put, List.setIfInBounds_toArray, List.set_cons_zero, List.set_cons_succ, i64_w, i32_w]
      rfl
    refine pure_ (i := 6) (N := some 20) (v := ?_) (a' := ?_) #[true, false, true, false, true, false, true, false, false, false, false, false] rfl rfl (any_of HT_.out (by kernel_rfl)) (fun _ _ _ h => h) (Or.inl ⟨by rfl, ?_⟩) ?_ ?_
    rotate_left
    · intro w'
      go_simp
      with_reducible rfl
    rotate_left
    · simp only [Act.put, List.setIfInBounds_toArray, List.set_cons_zero, List.set_cons_succ, i64_w, i32_w]
      rfl
    refine take_ (i := 1) (N := some 15) (v := ?_) (a' := ?_) #[true, true, true, false, true, false, true, false, false, false, false, false] rfl rfl (take_ofW HT_.out HW_.out (by kernel_rfl)) (fun _ _ _ h => h) (Or.inl ⟨by rfl, ?_⟩) hHeld ?_ ?_
    rotate_left
    · rintro w' ⟨s0, s1, s2, s3⟩
      go_simp
      with_reducible rfl
    rotate_left
    · simp only [Act.put, List.setIfInBounds_toArray, List.set_cons_zero, List.set_cons_succ, i64_w, i32_w]
      rfl
    refine pure_ (i := 8) (N := some 3) (v := ?_) (a' := ?_) #[true, true, true, false, true, false, true, false, true, false, false, false] rfl rfl (any_of HT_.out (by kernel_rfl)) (fun _ _ _ h => h) (Or.inl ⟨by rfl, ?_⟩) ?_ ?_
    rotate_left
    · intro w'
      go_simp
      with_reducible rfl
    rotate_left
    · simp only [Act.put, List.setIfInBounds_toArray, List.set_cons_zero, List.set_cons_succ, i64_w, i32_w]
      rfl
    refine take_ (i := 3) (N := some 17) (v := ?_) (a' := ?_) #[true, true, true, true, true, false, true, false, true, false, false, false] rfl rfl (take_ofW HT_.out HW_.out (by kernel_rfl)) (fun _ _ _ h => h) (Or.inl ⟨by rfl, ?_⟩) hHeld ?_ ?_
    rotate_left
    · rintro w' ⟨s0, s1, s2, s3⟩
      go_simp
      with_reducible rfl
    rotate_left
    · simp only [Act.put, List.setIfInBounds_toArray, List.set_cons_zero, List.set_cons_succ, i64_w, i32_w]
      rfl
    refine pure_ (i := 9) (N := some 4) (v := ?_) (a' := ?_) #[true, true, true, true, true, false, true, false, true, true, false, false] rfl rfl (any_of HT_.out (by kernel_rfl)) (fun _ _ _ h => h) (Or.inl ⟨by rfl, ?_⟩) ?_ ?_
    rotate_left
    · intro w'
      go_simp
      with_reducible rfl
    rotate_left
    · simp only [Act.put, List.setIfInBounds_toArray, List.set_cons_zero, List.set_cons_succ, i64_w, i32_w]
      rfl
    refine take_ (i := 5) (N := some 19) (v := ?_) (a' := ?_) #[true, true, true, true, true, true, true, false, true, true, false, false] rfl rfl (take_ofW HT_.out HW_.out (by kernel_rfl)) (fun _ _ _ h => h) (Or.inl ⟨by rfl, ?_⟩) hHeld ?_ ?_
    rotate_left
    · rintro w' ⟨s0, s1, s2, s3⟩
      go_simp
      with_reducible rfl
    rotate_left
    · simp only [Act.put, List.setIfInBounds_toArray, List.set_cons_zero, List.set_cons_succ, i64_w, i32_w]
      rfl
    refine pure_ (i := 10) (N := some 5) (v := ?_) (a' := ?_) #[true, true, true, true, true, true, true, false, true, true, true, false] rfl rfl (any_of HT_.out (by kernel_rfl)) (fun _ _ _ h => h) (Or.inl ⟨by rfl, ?_⟩) ?_ ?_
    rotate_left
    · intro w'
      go_simp
      with_reducible rfl
    rotate_left
    · simp only [Act.put, List.setIfInBounds_toArray, List.set_cons_zero, List.set_cons_succ, i64_w, i32_w]
      rfl
    refine take_ (i := 7) (N := some 21) (v := ?_) (a' := ?_) #[true, true, true, true, true, true, true, true, true, true, true, false] rfl rfl (take_ofW HT_.out HW_.out (by kernel_rfl)) (fun _ _ _ h => h) (Or.inl ⟨by rfl, ?_⟩) hHeld ?_ ?_
    rotate_left
    · rintro w' ⟨s0, s1, s2, s3⟩
      go_simp
      with_reducible rfl
    rotate_left
    · simp only [Act.put, List.setIfInBounds_toArray, List.set_cons_zero, List.set_cons_succ, i64_w, i32_w]
      rfl
    refine pure_ (i := 11) (N := some 6) (v := ?_) (a' := ?_) #[true, true, true, true, true, true, true, true, true, true, true, true] rfl rfl (any_of HT_.out (by kernel_rfl)) (fun _ _ _ h => h) (Or.inl ⟨by rfl, ?_⟩) ?_ ?_
    rotate_left
    · intro w'
      go_simp
      with_reducible rfl
    rotate_left
    · simp only [Act.put, List.setIfInBounds_toArray, List.set_cons_zero, List.set_cons_succ, i64_w, i32_w]
      rfl
    refine done_ (done_of HT_.out (by kernel_rfl)) ?_
    go_upto_region 6 with (first | ((with_reducible refine gate_callee (f := 27) rfl ?_); refine goesL_ (some 23) rfl rfl Try.func27 (by kernel_rfl) rfl #[.slice A0_2 l0_2.length c0_2] rfl (by (try simp only [List.map_toArray, List.map_cons, List.map_nil]); first | done | rfl | (simp only [List.length_drop, List.length_take]; rfl)) ?_; (with_reducible refine (incunablelaw15_count.calls k _ _ l0_2 t306 _ ?side1 ?side2 A2.out).mono ?_); (case side1 => repeat (first | exact (Kd.V_reads' HO0_2.out).2.2 | (with_reducible refine Kd.C_alloc ?_ _) | (with_reducible refine Kd.C_drewN ?_ _) | (with_reducible refine Kd.C_drew ?_))); (case side2 => exact (Kd.V_reads' HO0_2.out).2.1); rintro e w' ⟨rfl, ⟨nd, rfl⟩⟩; refine ⟨_, rfl, ?_⟩; (try (rw [drewN_self w12]; generalize hq_ : World.drewN w12 _ = w12; have n0_ : Aside0 (Kd.V k48 48 w12 w.heap.size (fun k_ => (P0_2_ k_ ∨ w.heap.size ≤ k_) ∧ k_ ≠ gb305) (.slice A0_2 l0_2.length c0_2) l0_2) := ⟨by rw [← hq_]; exact (by (with_reducible repeat (first | apply Kd.V_alloc | apply Kd.V_drewN | apply Kd.V_drew)); exact HO0_2.out)⟩; have n1_ : Aside0 (w12.heap[gb305]? = some (.cells #[.int .i64 a0_0, .int .i64 a0_1, .slice A0_2 l0_2.length c0_2, .int .i64 a0_3] 50 (0, 0))) := ⟨by rw [← hq_]; exact (bU BK305.out)⟩; have n2_ : Aside0 (Below w.heap.size w w12) := ⟨by rw [← hq_]; exact (by repeat (first | (with_reducible first | exact HB.out | apply below_alloc | apply pw_below_drewN | apply below_drew1 | refine below_set ?_ GE305.out) | exact HB.out))⟩; clear HO0_2 BK305 HB hq_; have HO0_2 := n0_; have BK305 := n1_; have HB := n2_; clear n0_ n1_ n2_))) | ((with_reducible refine gate_callee (f := 24) rfl ?_); refine goesL_ (some 30) rfl rfl Try.func24 (by kernel_rfl) rfl #[.int .i64 a0_0, .int .i64 a0_1, .slice A0_2 l0_2.length c0_2] rfl (by (try simp only [List.map_toArray, List.map_cons, List.map_nil]); first | done | rfl | (simp only [List.length_drop, List.length_take]; rfl)) ?_; (with_reducible refine (shape_Draw.calls k a0_0 a0_1 _ _ l0_2 t308 t309 t310 t313 _ ?side1 ?side2 A8.out).mono ?_); (case side1 => repeat (first | exact (Kd.V_reads' HO0_2.out).2.2 | (with_reducible refine Kd.C_alloc ?_ _) | (with_reducible refine Kd.C_drewN ?_ _) | (with_reducible refine Kd.C_drew ?_))); (case side2 => exact (Kd.V_reads' HO0_2.out).2.1); rintro e w13 ⟨v311, rfl, ho0, hb⟩; refine ⟨_, rfl, ?_⟩; have n0_ := Aside0.mk (Kd.V_elder' (by (with_reducible repeat (first | apply Kd.V_alloc | apply Kd.V_drewN | apply Kd.V_drew)); exact HO0_2.out) (Kd.R_base ho0) hb); have n1_ := Aside0.mk (Kd.R_lower (Kd.R_newM (M := fun k_ => (w.heap.size ≤ k_)) ho0 (below_size (by repeat (first | (with_reducible first | exact HB.out | apply below_alloc | apply pw_below_drewN | apply below_drew1 | refine below_set ?_ GE305.out) | exact HB.out))) (fun k_ h_ => h_)) (below_size (by repeat (first | (with_reducible first | exact HB.out | apply below_alloc | apply pw_below_drewN | apply below_drew1 | refine below_set ?_ GE305.out) | exact HB.out)))); have n2_ := Aside0.mk (blk_below (bU BK305.out) hb); have n3_ := Aside0.mk (below_step (by repeat (first | (with_reducible first | exact HB.out | apply below_alloc | apply pw_below_drewN | apply below_drew1 | refine below_set ?_ GE305.out) | exact HB.out)) hb); clear HO0_2; clear BK305; clear HB; have HO0_2 := n0_; have HO312 := n1_; have BK305 := n2_; have HB := n3_; clear n0_ n1_ n2_ n3_; (try clear hb); (try clear hb2); (try clear hk); (try clear hi); (try clear ho0)) | ((with_reducible refine gate_dst (N := 7) rfl ?_); (try (refine gate_guard (by rfl) ?_; dsimp only)); refine box_event ?hg (N := 7) ?hd (cs := #[.int .i64 0, .int .i64 0, .slice none 0 0]) (t := 24) ?hr ?_; (case hd => rfl); (case hg => rfl); (case hr => first | (go_simp; done) | (go_simp; rfl)); intro gb314 hg w14 hbox hb; have n0_ := Aside0.mk (Kd.V_below (Kd.V_elderB (by (with_reducible repeat (first | apply Kd.V_alloc | apply Kd.V_drewN | apply Kd.V_drew)); exact HO0_2.out) gb314 (Nat.le_of_eq hg.symm)) hb); have n1_ := Aside0.mk (Kd.R_below (rU HO312.out) hb); have n2_ := Aside0.mk (blk_below (bU BK305.out) hb); have n3_ := Aside0.mk (below_step (by repeat (first | (with_reducible first | exact HB.out | apply below_alloc | apply pw_below_drewN | apply below_drew1 | refine below_set ?_ GE305.out) | exact HB.out)) hb); have n4_ := Aside0.mk (hbox); have n5_ := Aside0.mk ((by rw [hg]; exact (below_size (by repeat (first | (with_reducible first | exact HB.out | apply below_alloc | apply pw_below_drewN | apply below_drew1 | refine below_set ?_ GE305.out) | exact HB.out))) : w.heap.size ≤ gb314)); have n6_ := Aside0.mk ((by rw [hg]; exact (below_size (by repeat (first | (with_reducible first | exact HB.out | apply below_alloc | apply pw_below_drewN | apply below_drew1 | refine below_set ?_ GE305.out) | exact HB.out))) : w.heap.size ≤ gb314)); have n7_ := Aside0.mk ((by rw [hg]; exact Nat.ne_of_lt (blk_lt (bU BK305.out)) : gb305 ≠ gb314)); have n8_ := Aside0.mk ((by rw [hg]; exact Nat.ne_of_gt (blk_lt (bU BK305.out)) : gb314 ≠ gb305)); clear HO0_2; clear HO312; clear BK305; clear HB; have HO0_2 := n0_; have HO312 := n1_; have BK305 := n2_; have HB := n3_; have BK314 := n4_; have GW314 := n5_; have GE314 := n6_; have NB305_314 := n7_; have NB314_305 := n8_; clear n0_ n1_ n2_ n3_ n4_ n5_ n6_ n7_ n8_; clear hb hbox hg; have hnb15 := NB314_305.out; have hnc15 := NB305_314.out; have hcz16_0 : w14.cell? ⟨gb314, 0, none⟩ = some (.int .i64 0) := (blk_cell BK314.out 0).trans rfl; have hcz16_1 : w14.cell? ⟨gb314, 1, none⟩ = some (.int .i64 0) := (blk_cell BK314.out 1).trans rfl; have hcz16_2 : w14.cell? ⟨gb314, 2, none⟩ = some (.slice none 0 0) := (blk_cell BK314.out 2).trans rfl; have hfz16_0 := blk_frozen BK314.out 0; have hfz16_1 := blk_frozen BK314.out 1; have hfz16_2 := blk_frozen BK314.out 2; obtain ⟨Ao17, co17, eo17⟩ := Kd.R_slice HO312.out; subst eo17) | ((with_reducible refine gate_callee (f := 28) rfl ?_); refine goesL_ (some 37) rfl rfl Try.func28 (by kernel_rfl) rfl #[.int .i64 a0_0, .int .i64 a0_1, .slice A0_2 l0_2.length c0_2] rfl (by (try simp only [List.map_toArray, List.map_cons, List.map_nil]); first | done | rfl | (simp only [List.length_drop, List.length_take]; rfl)) ?_; (with_reducible refine (incunableref15_Draw.calls k a0_0 a0_1 _ _ l0_2 t315 t316 t317 t320 _ ?side1 ?side2 A9.out).mono ?_); (case side1 => refine (Kd.V_reads' (e := 48) (base := w.heap.size) (ok := fun k_ => ((((P0_2_ k_ ∨ w.heap.size ≤ k_) ∧ k_ ≠ gb305) ∧ some k_ ≠ (.slice Ao17 t310.length co17 : Value).ownBlock) ∧ k_ ≠ gb314)) (n := l0_2.length) (c := c0_2) ?_).2.2; exact (by (with_reducible repeat (first | apply Kd.V_alloc | apply Kd.V_drewN | apply Kd.V_drew)); exact (Kd.V_mono (Kd.V_far (p := ⟨gb314, 2, none⟩) (Kd.V_far (p := ⟨gb314, 1, none⟩) (Kd.V_far (p := ⟨gb314, 0, none⟩) (Kd.V_mono HO0_2.out (fun k_ hk => (⟨hk, hk.2⟩ : _ ∧ k_ ≠ gb314))) (fun _ hk => hk.2) (.int .i64 t308)) (fun _ hk => hk.2) (.int .i64 t309)) (fun _ hk => hk.2) (.slice Ao17 t310.length co17)) (fun _ h_ => h_.1)))); (case side2 => exact (Kd.V_reads' HO0_2.out).2.1); rintro e w18 ⟨v318, rfl, ho0, hb⟩; refine ⟨_, rfl, ?_⟩; have n0_ := Aside0.mk (Kd.V_elder' (by (with_reducible repeat (first | apply Kd.V_alloc | apply Kd.V_drewN | apply Kd.V_drew)); exact (Kd.V_mono (Kd.V_far (p := ⟨gb314, 2, none⟩) (Kd.V_far (p := ⟨gb314, 1, none⟩) (Kd.V_far (p := ⟨gb314, 0, none⟩) (Kd.V_mono HO0_2.out (fun k_ hk => (⟨hk, hk.2⟩ : _ ∧ k_ ≠ gb314))) (fun _ hk => hk.2) (.int .i64 t308)) (fun _ hk => hk.2) (.int .i64 t309)) (fun _ hk => hk.2) (.slice Ao17 t310.length co17)) (fun _ h_ => h_.1))) (Kd.R_base ho0) hb); have n1_ := Aside0.mk (Kd.R_elder' (by (with_reducible repeat (first | apply Kd.R_alloc | apply Kd.R_drewN | apply Kd.R_drew)); exact (Kd.R_mono (Kd.R_far (p := ⟨gb314, 2, none⟩) (Kd.R_far (p := ⟨gb314, 1, none⟩) (Kd.R_far (p := ⟨gb314, 0, none⟩) (Kd.R_types HO312.out BK314.out (by decide)) (fun _ hk => hk.2) (.int .i64 t308)) (fun _ hk => hk.2) (.int .i64 t309)) (fun _ hk => hk.2) (.slice Ao17 t310.length co17)) (fun _ h_ => h_.1))) (Kd.R_base ho0) hb); have n2_ := Aside0.mk (Kd.R_lower (Kd.R_new' (Kd.R_newM (M := fun k_ => (w.heap.size ≤ k_)) ho0 (below_size (by repeat (first | (with_reducible first | exact HB.out | apply below_alloc | apply pw_below_drewN | apply below_drew1 | refine below_set ?_ GE305.out | refine below_set ?_ GE314.out) | exact HB.out))) (fun k_ h_ => h_)) (Kd.R_lt (by (with_reducible repeat (first | apply Kd.R_alloc | apply Kd.R_drewN | apply Kd.R_drew)); exact (Kd.R_mono (Kd.R_far (p := ⟨gb314, 2, none⟩) (Kd.R_far (p := ⟨gb314, 1, none⟩) (Kd.R_far (p := ⟨gb314, 0, none⟩) (Kd.R_types HO312.out BK314.out (by decide)) (fun _ hk => hk.2) (.int .i64 t308)) (fun _ hk => hk.2) (.int .i64 t309)) (fun _ hk => hk.2) (.slice Ao17 t310.length co17)) (fun _ h_ => h_.1))))) (below_size (by repeat (first | (with_reducible first | exact HB.out | apply below_alloc | apply pw_below_drewN | apply below_drew1 | refine below_set ?_ GE305.out | refine below_set ?_ GE314.out) | exact HB.out)))); have n3_ := Aside0.mk (blk_below (g := gb305) (o := .cells #[.int .i64 a0_0, .int .i64 a0_1, .slice A0_2 l0_2.length c0_2, .int .i64 a0_3] 50 (0, 0)) (by refine bF ?_ ?_; exact NB305_314.out; refine bF ?_ ?_; exact NB305_314.out; refine bF ?_ ?_; exact NB305_314.out; exact bU BK305.out) hb); have n4_ := Aside0.mk (blk_below (g := gb314) (o := .cells #[.int .i64 t308, .int .i64 t309, .slice Ao17 t310.length co17] 24 (0, 0)) (by (with_reducible repeat (first | refine blk_drewN ?_ _ | refine blk_drew ?_ | refine blk_alloc ?_ _)); refine blk_put (cs := #[.int .i64 t308, .int .i64 t309, .slice none 0 0]) ?_ 2 _ rfl; (with_reducible repeat (first | refine blk_drewN ?_ _ | refine blk_drew ?_ | refine blk_alloc ?_ _)); refine blk_put (cs := #[.int .i64 t308, .int .i64 0, .slice none 0 0]) ?_ 1 _ rfl; (with_reducible repeat (first | refine blk_drewN ?_ _ | refine blk_drew ?_ | refine blk_alloc ?_ _)); refine blk_put (cs := #[.int .i64 0, .int .i64 0, .slice none 0 0]) ?_ 0 _ rfl; exact bU BK314.out) hb); have n5_ := Aside0.mk (below_step (by repeat (first | (with_reducible first | exact HB.out | apply below_alloc | apply pw_below_drewN | apply below_drew1 | refine below_set ?_ GE305.out | refine below_set ?_ GE314.out) | exact HB.out)) hb); clear HO0_2; clear HO312; clear BK305; clear BK314; clear HB; have HO0_2 := n0_; have HO312 := n1_; have HO319 := n2_; have BK305 := n3_; have BK314 := n4_; have HB := n5_; clear n0_ n1_ n2_ n3_ n4_ n5_; (try clear hb); (try clear hb2); (try clear hk); (try clear hi); (try clear ho0)) | ((with_reducible refine gate_dst (N := 9) rfl ?_); (try (refine gate_guard (by rfl) ?_; dsimp only)); refine box_event ?hg (N := 9) ?hd (cs := #[.int .i64 0, .int .i64 0, .slice none 0 0]) (t := 24) ?hr ?_; (case hd => rfl); (case hg => rfl); (case hr => first | (go_simp; done) | (go_simp; rfl)); intro gb321 hg w19 hbox hb; have n0_ := Aside0.mk (Kd.V_below (Kd.V_elderB (by (with_reducible repeat (first | apply Kd.V_alloc | apply Kd.V_drewN | apply Kd.V_drew)); exact HO0_2.out) gb321 (Nat.le_of_eq hg.symm)) hb); have n1_ := Aside0.mk (Kd.R_below (rU HO312.out) hb); have n2_ := Aside0.mk (Kd.R_below (rU HO319.out) hb); have n3_ := Aside0.mk (blk_below (bU BK305.out) hb); have n4_ := Aside0.mk (blk_below (bU BK314.out) hb); have n5_ := Aside0.mk (below_step (by repeat (first | (with_reducible first | exact HB.out | apply below_alloc | apply pw_below_drewN | apply below_drew1 | refine below_set ?_ GE305.out | refine below_set ?_ GE314.out) | exact HB.out)) hb); have n6_ := Aside0.mk (hbox); have n7_ := Aside0.mk ((by rw [hg]; exact (below_size (by repeat (first | (with_reducible first | exact HB.out | apply below_alloc | apply pw_below_drewN | apply below_drew1 | refine below_set ?_ GE305.out | refine below_set ?_ GE314.out) | exact HB.out))) : w.heap.size ≤ gb321)); have n8_ := Aside0.mk ((by rw [hg]; exact (below_size (by repeat (first | (with_reducible first | exact HB.out | apply below_alloc | apply pw_below_drewN | apply below_drew1 | refine below_set ?_ GE305.out | refine below_set ?_ GE314.out) | exact HB.out))) : w.heap.size ≤ gb321)); have n9_ := Aside0.mk ((by rw [hg]; exact Nat.ne_of_lt (blk_lt (bU BK305.out)) : gb305 ≠ gb321)); have n10_ := Aside0.mk ((by rw [hg]; exact Nat.ne_of_gt (blk_lt (bU BK305.out)) : gb321 ≠ gb305)); have n11_ := Aside0.mk ((by rw [hg]; exact Nat.ne_of_lt (blk_lt (bU BK314.out)) : gb314 ≠ gb321)); have n12_ := Aside0.mk ((by rw [hg]; exact Nat.ne_of_gt (blk_lt (bU BK314.out)) : gb321 ≠ gb314)); clear HO0_2; clear HO312; clear HO319; clear BK305; clear BK314; clear HB; have HO0_2 := n0_; have HO312 := n1_; have HO319 := n2_; have BK305 := n3_; have BK314 := n4_; have HB := n5_; have BK321 := n6_; have GW321 := n7_; have GE321 := n8_; have NB305_321 := n9_; have NB321_305 := n10_; have NB314_321 := n11_; have NB321_314 := n12_; clear n0_ n1_ n2_ n3_ n4_ n5_ n6_ n7_ n8_ n9_ n10_ n11_ n12_; clear hb hbox hg; have hnb20 := NB321_305.out; have hnc20 := NB305_321.out; have hnb21 := NB321_314.out; have hnc21 := NB314_321.out; have hcz22_0 : w19.cell? ⟨gb321, 0, none⟩ = some (.int .i64 0) := (blk_cell BK321.out 0).trans rfl; have hcz22_1 : w19.cell? ⟨gb321, 1, none⟩ = some (.int .i64 0) := (blk_cell BK321.out 1).trans rfl; have hcz22_2 : w19.cell? ⟨gb321, 2, none⟩ = some (.slice none 0 0) := (blk_cell BK321.out 2).trans rfl; have hfz22_0 := blk_frozen BK321.out 0; have hfz22_1 := blk_frozen BK321.out 1; have hfz22_2 := blk_frozen BK321.out 2; obtain ⟨Ao23, co23, eo23⟩ := Kd.R_slice HO319.out; subst eo23))
    (try simp only [Act.put, List.setIfInBounds_toArray, List.set_cons_zero, List.set_cons_succ])
    go_cut [48] (fun v48 wc => ∃ (kq : Nat) (x48_9 : Bool), v48 = .bool x48_9 ∧ Aside0 (incunablelaw15_ShapeDraws.j0 kq a0_0 a0_1 l0_2 a0_3 t313 x48_9 t308 t309 t310 = some r) ∧ Aside0 (kq ≤ k) ∧ Aside0 (Kd.V k48 48 wc w.heap.size (fun k_ => (P0_2_ k_ ∨ w.heap.size ≤ k_) ∧ some k_ ≠ ((.slice Ao17 t310.length co17) : Value).ownBlock ∧ some k_ ≠ ((.slice Ao23 t317.length co23) : Value).ownBlock ∧ k_ ≠ gb305 ∧ k_ ≠ gb314 ∧ k_ ≠ gb321) (.slice A0_2 l0_2.length c0_2) l0_2) ∧ Aside0 (Kd.V k48 48 wc w.heap.size (fun k_ => (P0_2_ k_ ∨ w.heap.size ≤ k_) ∧ some k_ ≠ ((.slice Ao17 t310.length co17) : Value).ownBlock ∧ some k_ ≠ ((.slice Ao23 t317.length co23) : Value).ownBlock ∧ k_ ≠ gb305 ∧ k_ ≠ gb314 ∧ k_ ≠ gb321) (.slice A0_2 l0_2.length c0_2) l0_2) ∧ Aside0 (Kd.R (Kd.int .u8) 5 wc w.heap.size (fun k_ => (w.heap.size ≤ k_) ∧ some k_ ≠ ((.slice Ao23 t317.length co23) : Value).ownBlock) (.slice Ao17 t310.length co17) t310) ∧ Aside0 (Kd.R (Kd.int .u8) 5 wc w.heap.size (fun k_ => (w.heap.size ≤ k_) ∧ some k_ ≠ ((.slice Ao17 t310.length co17) : Value).ownBlock) (.slice Ao23 t317.length co23) t317) ∧ Aside0 (wc.heap[gb305]? = some (.cells #[.int .i64 a0_0, .int .i64 a0_1, (.slice A0_2 l0_2.length c0_2), .int .i64 a0_3] 50 (0, 0))) ∧ Aside0 (wc.heap[gb314]? = some (.cells #[.int .i64 t308, .int .i64 t309, (.slice Ao17 t310.length co17)] 24 (0, 0))) ∧ Aside0 (wc.heap[gb321]? = some (.cells #[.int .i64 t315, .int .i64 t316, (.slice Ao23 t317.length co23)] 24 (0, 0))) ∧ Aside0 (Below w.heap.size w wc))
    case first =>
      have H := HC10.out
      clear HC10
      by_cases c24 : t313 = t320
      · rw [if_pos c24] at H
        have c24b0 : (t313 == t320) = true := beq_iff_eq.mpr c24
        have c24b1 : (t313 != t320) = false := bne_eq_false_iff_eq.mpr c24
        clear c24
        (first | rw [c24b0] | (simp only [i64_w, i32_w]; rw [c24b0]) | skip)
        replace H := Option.bind_eq_some_iff.mp H
        obtain ⟨t322, A250, H⟩ := H
        replace H : (incunablelaw15_ShapeDraws.j0 k a0_0 a0_1 l0_2 a0_3 t313 (!t322) t308 t309 t310) = some r := H
        have A25 := Aside0.mk A250
        clear A250
        have H' := Aside0.mk H
        clear H
        have hnb26 := NB314_305.out
        have hnc26 := NB305_314.out
        have hnb27 := NB314_321.out
        have hnc27 := NB321_314.out
        have hcz28_0 : w19.cell? ⟨gb314, 0, none⟩ = some (.int .i64 t308) := (blk_cell BK314.out 0).trans rfl
        have hcz28_1 : w19.cell? ⟨gb314, 1, none⟩ = some (.int .i64 t309) := (blk_cell BK314.out 1).trans rfl
        have hcz28_2 : w19.cell? ⟨gb314, 2, none⟩ = some (.slice Ao17 t310.length co17) := (blk_cell BK314.out 2).trans rfl
        have hfz28_0 := blk_frozen BK314.out 0
        have hfz28_1 := blk_frozen BK314.out 1
        have hfz28_2 := blk_frozen BK314.out 2
        have hnb29 := NB321_305.out
        have hnc29 := NB305_321.out
        have hcz30_0 : w19.cell? ⟨gb321, 0, none⟩ = some (.int .i64 0) := (blk_cell BK321.out 0).trans rfl
        have hcz30_1 : w19.cell? ⟨gb321, 1, none⟩ = some (.int .i64 0) := (blk_cell BK321.out 1).trans rfl
        have hcz30_2 : w19.cell? ⟨gb321, 2, none⟩ = some (.slice none 0 0) := (blk_cell BK321.out 2).trans rfl
        have hfz30_0 := blk_frozen BK321.out 0
        have hfz30_1 := blk_frozen BK321.out 1
        have hfz30_2 := blk_frozen BK321.out 2
        go_wp2_with (first | (go_at_call 25; (with_reducible refine (incunableref05_Same.calls t308 t309 _ _ t310 t315 t316 _ _ t317 t322 _ ?side1 ?side2 ?side3 ?side4 A25.out).mono ?_); (case side1 => refine (Kd.R_reads' (e := 5) (base := w.heap.size) (ok := fun k_ => (((w.heap.size ≤ k_) ∧ True) ∧ some k_ ≠ (.slice Ao23 t317.length co23 : Value).ownBlock)) (n := t310.length) (c := co17) ?_).2.2; exact (by (with_reducible repeat (first | apply Kd.R_alloc | apply Kd.R_drewN | apply Kd.R_drew)); exact (Kd.R_mono (Kd.R_far (p := ⟨gb321, 2, none⟩) (Kd.R_far (p := ⟨gb321, 1, none⟩) (Kd.R_far (p := ⟨gb321, 0, none⟩) (Kd.R_types HO312.out BK321.out (by decide)) (fun _ hk => hk.2) (.int .i64 t315)) (fun _ hk => hk.2) (.int .i64 t316)) (fun _ hk => hk.2) (.slice Ao23 t317.length co23)) (fun _ h_ => h_.1)))); (case side2 => exact (Kd.R_reads' HO312.out).2.1); (case side3 => refine (Kd.R_reads' (e := 5) (base := w.heap.size) (ok := fun k_ => (((w.heap.size ≤ k_) ∧ True) ∧ some k_ ≠ (.slice Ao17 t310.length co17 : Value).ownBlock)) (n := t317.length) (c := co23) ?_).2.2; exact (by (with_reducible repeat (first | apply Kd.R_alloc | apply Kd.R_drewN | apply Kd.R_drew)); exact (Kd.R_mono (Kd.R_far (p := ⟨gb321, 2, none⟩) (Kd.R_far (p := ⟨gb321, 1, none⟩) (Kd.R_far (p := ⟨gb321, 0, none⟩) (Kd.R_types HO319.out BK321.out (by decide)) (fun _ hk => hk.2) (.int .i64 t315)) (fun _ hk => hk.2) (.int .i64 t316)) (fun _ hk => hk.2) (.slice Ao23 t317.length co23)) (fun _ h_ => h_.1)))); (case side4 => exact (Kd.R_reads' HO319.out).2.1); rintro e w31 ⟨rfl, hb⟩; have n0_ := Aside0.mk (Kd.V_below (by (with_reducible repeat (first | apply Kd.V_alloc | apply Kd.V_drewN | apply Kd.V_drew)); exact (Kd.V_mono (Kd.V_far (p := ⟨gb321, 2, none⟩) (Kd.V_far (p := ⟨gb321, 1, none⟩) (Kd.V_far (p := ⟨gb321, 0, none⟩) (Kd.V_mono HO0_2.out (fun k_ hk => (⟨hk, hk.2⟩ : _ ∧ k_ ≠ gb321))) (fun _ hk => hk.2) (.int .i64 t315)) (fun _ hk => hk.2) (.int .i64 t316)) (fun _ hk => hk.2) (.slice Ao23 t317.length co23)) (fun _ h_ => h_.1))) hb); have n1_ := Aside0.mk (Kd.R_below (by (with_reducible repeat (first | apply Kd.R_alloc | apply Kd.R_drewN | apply Kd.R_drew)); exact (Kd.R_mono (Kd.R_far (p := ⟨gb321, 2, none⟩) (Kd.R_far (p := ⟨gb321, 1, none⟩) (Kd.R_far (p := ⟨gb321, 0, none⟩) (Kd.R_types HO312.out BK321.out (by decide)) (fun _ hk => hk.2) (.int .i64 t315)) (fun _ hk => hk.2) (.int .i64 t316)) (fun _ hk => hk.2) (.slice Ao23 t317.length co23)) (fun _ h_ => h_.1))) hb); have n2_ := Aside0.mk (Kd.R_below (by (with_reducible repeat (first | apply Kd.R_alloc | apply Kd.R_drewN | apply Kd.R_drew)); exact (Kd.R_mono (Kd.R_far (p := ⟨gb321, 2, none⟩) (Kd.R_far (p := ⟨gb321, 1, none⟩) (Kd.R_far (p := ⟨gb321, 0, none⟩) (Kd.R_types HO319.out BK321.out (by decide)) (fun _ hk => hk.2) (.int .i64 t315)) (fun _ hk => hk.2) (.int .i64 t316)) (fun _ hk => hk.2) (.slice Ao23 t317.length co23)) (fun _ h_ => h_.1))) hb); have n3_ := Aside0.mk (blk_below (g := gb305) (o := .cells #[.int .i64 a0_0, .int .i64 a0_1, .slice A0_2 l0_2.length c0_2, .int .i64 a0_3] 50 (0, 0)) (by refine bF ?_ ?_; exact NB305_321.out; refine bF ?_ ?_; exact NB305_321.out; refine bF ?_ ?_; exact NB305_321.out; exact bU BK305.out) hb); have n4_ := Aside0.mk (blk_below (g := gb314) (o := .cells #[.int .i64 t308, .int .i64 t309, .slice Ao17 t310.length co17] 24 (0, 0)) (by refine bF ?_ ?_; exact NB314_321.out; refine bF ?_ ?_; exact NB314_321.out; refine bF ?_ ?_; exact NB314_321.out; exact bU BK314.out) hb); have n5_ := Aside0.mk (blk_below (g := gb321) (o := .cells #[.int .i64 t315, .int .i64 t316, .slice Ao23 t317.length co23] 24 (0, 0)) (by (with_reducible repeat (first | refine blk_drewN ?_ _ | refine blk_drew ?_ | refine blk_alloc ?_ _)); refine blk_put (cs := #[.int .i64 t315, .int .i64 t316, .slice none 0 0]) ?_ 2 _ rfl; (with_reducible repeat (first | refine blk_drewN ?_ _ | refine blk_drew ?_ | refine blk_alloc ?_ _)); refine blk_put (cs := #[.int .i64 t315, .int .i64 0, .slice none 0 0]) ?_ 1 _ rfl; (with_reducible repeat (first | refine blk_drewN ?_ _ | refine blk_drew ?_ | refine blk_alloc ?_ _)); refine blk_put (cs := #[.int .i64 0, .int .i64 0, .slice none 0 0]) ?_ 0 _ rfl; exact bU BK321.out) hb); have n6_ := Aside0.mk (below_step (by repeat (first | (with_reducible first | exact HB.out | apply below_alloc | apply pw_below_drewN | apply below_drew1 | refine below_set ?_ GE305.out | refine below_set ?_ GE314.out | refine below_set ?_ GE321.out) | exact HB.out)) hb); clear HO0_2; clear HO312; clear HO319; clear BK305; clear BK314; clear BK321; clear HB; have HO0_2 := n0_; have HO312 := n1_; have HO319 := n2_; have BK305 := n3_; have BK314 := n4_; have BK321 := n5_; have HB := n6_; clear n0_ n1_ n2_ n3_ n4_ n5_ n6_; (try clear hb); (try clear hb2); (try clear hk); (try clear hi)))
        go_meet
        case rel => exact ⟨_, (!t322), (by first | rfl | (simp; done) | (simp [*]; done)), H', ⟨by first | omega | exact Nat.le_refl _⟩, ⟨by (with_reducible repeat (first | apply Kd.V_alloc | apply Kd.V_drewN | apply Kd.V_drew)); exact Kd.V_mono HO0_2.out (fun _ hk => ⟨hk.1.1.1.1.1, ⟨hk.1.1.1.2, ⟨hk.1.2, ⟨hk.1.1.1.1.2, ⟨hk.1.1.2, hk.2⟩⟩⟩⟩⟩)⟩, ⟨by (with_reducible repeat (first | apply Kd.V_alloc | apply Kd.V_drewN | apply Kd.V_drew)); exact Kd.V_mono HO0_2.out (fun _ hk => ⟨hk.1.1.1.1.1, ⟨hk.1.1.1.2, ⟨hk.1.2, ⟨hk.1.1.1.1.2, ⟨hk.1.1.2, hk.2⟩⟩⟩⟩⟩)⟩, ⟨by (with_reducible repeat (first | apply Kd.R_alloc | apply Kd.R_drewN | apply Kd.R_drew)); exact Kd.R_mono HO312.out (fun _ hk => ⟨hk.1.1, hk.2⟩)⟩, ⟨by (with_reducible repeat (first | apply Kd.R_alloc | apply Kd.R_drewN | apply Kd.R_drew)); exact Kd.R_mono HO319.out (fun _ hk => ⟨hk.1.1, hk.2⟩)⟩, ⟨by exact bU BK305.out⟩, ⟨by exact bU BK314.out⟩, ⟨by exact bU BK321.out⟩, ⟨by repeat (first | (with_reducible first | exact HB.out | apply below_alloc | apply pw_below_drewN | apply below_drew1 | refine below_set ?_ GE305.out | refine below_set ?_ GE314.out | refine below_set ?_ GE321.out) | exact HB.out)⟩⟩
      · rw [if_neg c24] at H
        have c24b0 : (t313 == t320) = false := beq_eq_false_iff_ne.mpr c24
        have c24b1 : (t313 != t320) = true := bne_iff_ne.mpr c24
        (first | rw [c24b0] | (simp only [i64_w, i32_w]; rw [c24b0]) | skip)
        have H' := Aside0.mk H
        clear H
        go_wp2
        go_meet
        case rel => exact ⟨_, (true), (by first | rfl | (simp; done) | (simp [*]; done)), H', ⟨by first | omega | exact Nat.le_refl _⟩, ⟨by (with_reducible repeat (first | apply Kd.V_alloc | apply Kd.V_drewN | apply Kd.V_drew)); exact Kd.V_mono (Kd.V_far (p := ⟨gb321, 2, none⟩) (Kd.V_far (p := ⟨gb321, 1, none⟩) (Kd.V_far (p := ⟨gb321, 0, none⟩) (Kd.V_mono HO0_2.out (fun k_ hk => (⟨hk, hk.2⟩ : _ ∧ k_ ≠ gb321))) (fun _ hk => hk.2) (.int .i64 t315)) (fun _ hk => hk.2) (.int .i64 t316)) (fun _ hk => hk.2) (.slice Ao23 t317.length co23)) (fun _ hk => ⟨hk.1.1.1.1.1.1, ⟨hk.1.1.1.1.2, ⟨hk.1.1.2, ⟨hk.1.1.1.1.1.2, ⟨hk.1.1.1.2, hk.1.2⟩⟩⟩⟩⟩)⟩, ⟨by (with_reducible repeat (first | apply Kd.V_alloc | apply Kd.V_drewN | apply Kd.V_drew)); exact Kd.V_mono (Kd.V_far (p := ⟨gb321, 2, none⟩) (Kd.V_far (p := ⟨gb321, 1, none⟩) (Kd.V_far (p := ⟨gb321, 0, none⟩) (Kd.V_mono HO0_2.out (fun k_ hk => (⟨hk, hk.2⟩ : _ ∧ k_ ≠ gb321))) (fun _ hk => hk.2) (.int .i64 t315)) (fun _ hk => hk.2) (.int .i64 t316)) (fun _ hk => hk.2) (.slice Ao23 t317.length co23)) (fun _ hk => ⟨hk.1.1.1.1.1.1, ⟨hk.1.1.1.1.2, ⟨hk.1.1.2, ⟨hk.1.1.1.1.1.2, ⟨hk.1.1.1.2, hk.1.2⟩⟩⟩⟩⟩)⟩, ⟨by (with_reducible repeat (first | apply Kd.R_alloc | apply Kd.R_drewN | apply Kd.R_drew)); exact Kd.R_mono (Kd.R_far (p := ⟨gb321, 2, none⟩) (Kd.R_far (p := ⟨gb321, 1, none⟩) (Kd.R_far (p := ⟨gb321, 0, none⟩) (Kd.R_types HO312.out BK321.out (by decide)) (fun _ hk => hk.2) (.int .i64 t315)) (fun _ hk => hk.2) (.int .i64 t316)) (fun _ hk => hk.2) (.slice Ao23 t317.length co23)) (fun _ hk => ⟨hk.1.1.1, hk.1.2⟩)⟩, ⟨by (with_reducible repeat (first | apply Kd.R_alloc | apply Kd.R_drewN | apply Kd.R_drew)); exact Kd.R_mono (Kd.R_far (p := ⟨gb321, 2, none⟩) (Kd.R_far (p := ⟨gb321, 1, none⟩) (Kd.R_far (p := ⟨gb321, 0, none⟩) (Kd.R_types HO319.out BK321.out (by decide)) (fun _ hk => hk.2) (.int .i64 t315)) (fun _ hk => hk.2) (.int .i64 t316)) (fun _ hk => hk.2) (.slice Ao23 t317.length co23)) (fun _ hk => ⟨hk.1.1.1, hk.1.2⟩)⟩, ⟨by refine bF ?_ ?_; exact NB305_321.out; refine bF ?_ ?_; exact NB305_321.out; refine bF ?_ ?_; exact NB305_321.out; exact bU BK305.out⟩, ⟨by refine bF ?_ ?_; exact NB314_321.out; refine bF ?_ ?_; exact NB314_321.out; refine bF ?_ ?_; exact NB314_321.out; exact bU BK314.out⟩, ⟨by (with_reducible repeat (first | refine blk_drewN ?_ _ | refine blk_drew ?_ | refine blk_alloc ?_ _)); refine blk_put (cs := #[.int .i64 t315, .int .i64 t316, .slice none 0 0]) ?_ 2 _ rfl; (with_reducible repeat (first | refine blk_drewN ?_ _ | refine blk_drew ?_ | refine blk_alloc ?_ _)); refine blk_put (cs := #[.int .i64 t315, .int .i64 0, .slice none 0 0]) ?_ 1 _ rfl; (with_reducible repeat (first | refine blk_drewN ?_ _ | refine blk_drew ?_ | refine blk_alloc ?_ _)); refine blk_put (cs := #[.int .i64 0, .int .i64 0, .slice none 0 0]) ?_ 0 _ rfl; exact bU BK321.out⟩, ⟨by repeat (first | (with_reducible first | exact HB.out | apply below_alloc | apply pw_below_drewN | apply below_drew1 | refine below_set ?_ GE305.out | refine below_set ?_ GE314.out | refine below_set ?_ GE321.out) | exact HB.out)⟩⟩
    case rest =>
      clear HC10
      try clear c1
      try clear c2
      try clear p2
      try clear c3
      try clear c3b0
      try clear c6
      try clear c11
      try clear c15
      try clear c20
      try clear c21
      try clear c24
      try clear c24b0
      try clear c24b1
      try clear c26
      try clear c27
      try clear c28
      try clear c29
      try clear hcz16_0
      try clear hcz16_1
      try clear hcz16_2
      try clear hcz22_0
      try clear hcz22_1
      try clear hcz22_2
      try clear hcz28_0
      try clear hcz28_1
      try clear hcz28_2
      try clear hcz30_0
      try clear hcz30_1
      try clear hcz30_2
      try clear hfz16_0
      try clear hfz16_1
      try clear hfz16_2
      try clear hfz22_0
      try clear hfz22_1
      try clear hfz22_2
      try clear hfz28_0
      try clear hfz28_1
      try clear hfz28_2
      try clear hfz30_0
      try clear hfz30_1
      try clear hfz30_2
      obtain ⟨kq, x48_9, rfl, HA, HJ9, HO_5, HO_306002, HO_315002, HO_322002, BK305, BK314, BK321, HB⟩ := hcut
      cases kq with
      | zero => exact absurd HA.out (by simp [incunablelaw15_ShapeDraws.j0])
      | succ kj9 =>
        have H := HA.out
        clear HA
        simp only [incunablelaw15_ShapeDraws.j0] at H
        by_cases c32 : x48_9 = true
        · subst c32
          have H1 : (some false) = some r := by rw [if_pos rfl] at H; exact H
          clear H
          have H := H1
          clear H1
          exact absurd ((Option.some.inj H).trans HR_.out) (by decide)
        · replace c32 := Bool.eq_false_iff.mpr c32
          subst c32
          have H1 : (if t313 = 0 then (incunablelaw15_ShapeDraws.j1 kj9 a0_0 a0_1 l0_2 a0_3 ((l0_2.length : Int) == 0) t308 t309 t310) else (incunablelaw15_ShapeDraws.j1 kj9 a0_0 a0_1 l0_2 a0_3 true t308 t309 t310)) = some r := by rw [if_neg (show ¬ (false = true) by decide)] at H; exact H
          clear H
          have H := H1
          clear H1
          have HC33 := Aside0.mk H
          clear H
          go_upto_region 8 with (fail)
          go_cut [55] (fun v55 wc => ∃ (kq : Nat) (x55_32 : Bool), v55 = .bool x55_32 ∧ Aside0 (incunablelaw15_ShapeDraws.j1 kq a0_0 a0_1 l0_2 a0_3 x55_32 t308 t309 t310 = some r) ∧ Aside0 (kq ≤ kj9) ∧ Aside0 (Kd.V k48 48 wc w.heap.size (fun k_ => (P0_2_ k_ ∨ w.heap.size ≤ k_) ∧ some k_ ≠ ((.slice Ao17 t310.length co17) : Value).ownBlock ∧ some k_ ≠ ((.slice Ao23 t317.length co23) : Value).ownBlock ∧ k_ ≠ gb305 ∧ k_ ≠ gb314 ∧ k_ ≠ gb321) (.slice A0_2 l0_2.length c0_2) l0_2) ∧ Aside0 (Kd.V k48 48 wc w.heap.size (fun k_ => (P0_2_ k_ ∨ w.heap.size ≤ k_) ∧ some k_ ≠ ((.slice Ao17 t310.length co17) : Value).ownBlock ∧ some k_ ≠ ((.slice Ao23 t317.length co23) : Value).ownBlock ∧ k_ ≠ gb305 ∧ k_ ≠ gb314 ∧ k_ ≠ gb321) (.slice A0_2 l0_2.length c0_2) l0_2) ∧ Aside0 (Kd.R (Kd.int .u8) 5 wc w.heap.size (fun k_ => (w.heap.size ≤ k_) ∧ some k_ ≠ ((.slice Ao23 t317.length co23) : Value).ownBlock) (.slice Ao17 t310.length co17) t310) ∧ Aside0 (Kd.R (Kd.int .u8) 5 wc w.heap.size (fun k_ => (w.heap.size ≤ k_) ∧ some k_ ≠ ((.slice Ao17 t310.length co17) : Value).ownBlock) (.slice Ao23 t317.length co23) t317) ∧ Aside0 (wc.heap[gb305]? = some (.cells #[.int .i64 a0_0, .int .i64 a0_1, (.slice A0_2 l0_2.length c0_2), .int .i64 a0_3] 50 (0, 0))) ∧ Aside0 (wc.heap[gb314]? = some (.cells #[.int .i64 t308, .int .i64 t309, (.slice Ao17 t310.length co17)] 24 (0, 0))) ∧ Aside0 (wc.heap[gb321]? = some (.cells #[.int .i64 t315, .int .i64 t316, (.slice Ao23 t317.length co23)] 24 (0, 0))) ∧ Aside0 (Below w.heap.size w wc))
          case first =>
            have H := HC33.out
            clear HC33
            by_cases c34 : t313 = 0
            · rw [if_pos c34] at H
              have c34b0 : (t313 == 0) = true := beq_iff_eq.mpr c34
              have c34b1 : (t313 != 0) = false := bne_eq_false_iff_eq.mpr c34
              clear c34
              (first | rw [c34b0] | (simp only [i64_w, i32_w]; rw [c34b0]) | skip)
              have H' := Aside0.mk H
              clear H
              go_wp2
              go_meet
              case rel => exact ⟨_, (((l0_2.length : Int) == 0)), (by first | rfl | (simp; done) | (simp [*]; done)), H', ⟨by have := HJ9.out; first | omega | exact Nat.le_refl _⟩, ⟨by (with_reducible repeat (first | apply Kd.V_alloc | apply Kd.V_drewN | apply Kd.V_drew)); exact HO_5.out⟩, ⟨by (with_reducible repeat (first | apply Kd.V_alloc | apply Kd.V_drewN | apply Kd.V_drew)); exact HO_306002.out⟩, ⟨by (with_reducible repeat (first | apply Kd.R_alloc | apply Kd.R_drewN | apply Kd.R_drew)); exact HO_315002.out⟩, ⟨by (with_reducible repeat (first | apply Kd.R_alloc | apply Kd.R_drewN | apply Kd.R_drew)); exact HO_322002.out⟩, ⟨by exact bU BK305.out⟩, ⟨by exact bU BK314.out⟩, ⟨by exact bU BK321.out⟩, ⟨by repeat (first | (with_reducible first | exact HB.out | apply below_alloc | apply pw_below_drewN | apply below_drew1 | refine below_set ?_ GE305.out | refine below_set ?_ GE314.out | refine below_set ?_ GE321.out) | exact HB.out)⟩⟩
            · rw [if_neg c34] at H
              have c34b0 : (t313 == 0) = false := beq_eq_false_iff_ne.mpr c34
              have c34b1 : (t313 != 0) = true := bne_iff_ne.mpr c34
              (first | rw [c34b0] | (simp only [i64_w, i32_w]; rw [c34b0]) | skip)
              have H' := Aside0.mk H
              clear H
              go_wp2
              go_meet
              case rel => exact ⟨_, (true), (by first | rfl | (simp; done) | (simp [*]; done)), H', ⟨by have := HJ9.out; first | omega | exact Nat.le_refl _⟩, ⟨by (with_reducible repeat (first | apply Kd.V_alloc | apply Kd.V_drewN | apply Kd.V_drew)); exact HO_5.out⟩, ⟨by (with_reducible repeat (first | apply Kd.V_alloc | apply Kd.V_drewN | apply Kd.V_drew)); exact HO_306002.out⟩, ⟨by (with_reducible repeat (first | apply Kd.R_alloc | apply Kd.R_drewN | apply Kd.R_drew)); exact HO_315002.out⟩, ⟨by (with_reducible repeat (first | apply Kd.R_alloc | apply Kd.R_drewN | apply Kd.R_drew)); exact HO_322002.out⟩, ⟨by exact bU BK305.out⟩, ⟨by exact bU BK314.out⟩, ⟨by exact bU BK321.out⟩, ⟨by repeat (first | (with_reducible first | exact HB.out | apply below_alloc | apply pw_below_drewN | apply below_drew1 | refine below_set ?_ GE305.out | refine below_set ?_ GE314.out | refine below_set ?_ GE321.out) | exact HB.out)⟩⟩
          case rest =>
            clear HC33
            try clear c1
            try clear c2
            try clear p2
            try clear c3
            try clear c3b0
            try clear c6
            try clear c11
            try clear c15
            try clear c20
            try clear c21
            try clear c24
            try clear c24b0
            try clear c24b1
            try clear c26
            try clear c27
            try clear c28
            try clear c29
            try clear c32
            try clear c34
            try clear c34b0
            try clear c34b1
            try clear hcz16_0
            try clear hcz16_1
            try clear hcz16_2
            try clear hcz22_0
            try clear hcz22_1
            try clear hcz22_2
            try clear hcz28_0
            try clear hcz28_1
            try clear hcz28_2
            try clear hcz30_0
            try clear hcz30_1
            try clear hcz30_2
            try clear hfz16_0
            try clear hfz16_1
            try clear hfz16_2
            try clear hfz22_0
            try clear hfz22_1
            try clear hfz22_2
            try clear hfz28_0
            try clear hfz28_1
            try clear hfz28_2
            try clear hfz30_0
            try clear hfz30_1
            try clear hfz30_2
            try clear p2
            obtain ⟨kq, x55_32, rfl, HA, HJ32, HO_5, HO_306002, HO_315002, HO_322002, BK305, BK314, BK321, HB⟩ := hcut
            cases kq with
            | zero => exact absurd HA.out (by simp [incunablelaw15_ShapeDraws.j1])
            | succ kj32 =>
              have H := HA.out
              clear HA
              simp only [incunablelaw15_ShapeDraws.j1] at H
              by_cases c35 : x55_32 = true
              · subst c35
                have H1 : ((incunablelaw15_Sane.f kj32).bind fun t323 => (some t323)) = some r := by rw [if_pos rfl] at H; exact H
                clear H
                have H := H1
                clear H1
                replace H := Option.bind_eq_some_iff.mp H
                obtain ⟨t323, A360, H⟩ := H
                replace H : (some t323) = some r := H
                have A36 := Aside0.mk A360
                clear A360
                obtain rfl := Option.some.inj H
                go_wp2_with (first | ((with_reducible refine gate_callee (f := 11) rfl ?_); refine goesL_ (some 56) rfl rfl Try.func11 (by kernel_rfl) rfl #[] rfl (by (try simp only [List.map_toArray, List.map_cons, List.map_nil]); first | done | rfl | (simp only [List.length_drop, List.length_take]; rfl)) ?_; (with_reducible refine (incunablelaw15_Sane.calls kj32  t323 _ A36.out).mono ?_); rintro e w37 ⟨rfl, hb⟩; refine ⟨_, rfl, ?_⟩; have n0_ := Aside0.mk (Kd.V_below (by (with_reducible repeat (first | apply Kd.V_alloc | apply Kd.V_drewN | apply Kd.V_drew)); exact HO_5.out) hb); have n1_ := Aside0.mk (Kd.V_below (by (with_reducible repeat (first | apply Kd.V_alloc | apply Kd.V_drewN | apply Kd.V_drew)); exact HO_306002.out) hb); have n2_ := Aside0.mk (Kd.R_below (rU HO_315002.out) hb); have n3_ := Aside0.mk (Kd.R_below (rU HO_322002.out) hb); have n4_ := Aside0.mk (blk_below (bU BK305.out) hb); have n5_ := Aside0.mk (blk_below (bU BK314.out) hb); have n6_ := Aside0.mk (blk_below (bU BK321.out) hb); have n7_ := Aside0.mk (below_step (by repeat (first | (with_reducible first | exact HB.out | apply below_alloc | apply pw_below_drewN | apply below_drew1 | refine below_set ?_ GE305.out | refine below_set ?_ GE314.out | refine below_set ?_ GE321.out) | exact HB.out)) hb); clear HO_5; clear HO_306002; clear HO_315002; clear HO_322002; clear BK305; clear BK314; clear BK321; clear HB; have HO_5 := n0_; have HO_306002 := n1_; have HO_315002 := n2_; have HO_322002 := n3_; have BK305 := n4_; have BK314 := n5_; have BK321 := n6_; have HB := n7_; clear n0_ n1_ n2_ n3_ n4_ n5_ n6_ n7_; (try clear hb); (try clear hb2); (try clear hk); (try clear hi)))
                go_ret
                exact ⟨by first | rfl | (simp [errW_none, errW_some] <;> rfl) | (simp [*, errW_none, errW_some] <;> rfl), by repeat (first | (with_reducible first | exact HB.out | apply below_alloc | apply pw_below_drewN | apply below_drew1 | refine below_set ?_ GE305.out | refine below_set ?_ GE314.out | refine below_set ?_ GE321.out) | exact HB.out)⟩
              · replace c35 := Bool.eq_false_iff.mpr c35
                subst c35
                have H1 : (if (l0_2.length : Int) = 0 then (none) else ((some (([] : List (S48)) : List (S48))).bind fun y324 => (if 0 ≤ (Int.tmod (wrap64 ((Int.tmod a0_3 (l0_2.length : Int)) + (l0_2.length : Int))) (l0_2.length : Int)) then (if (Int.tmod (wrap64 ((Int.tmod a0_3 (l0_2.length : Int)) + (l0_2.length : Int))) (l0_2.length : Int)) ≤ (l0_2.length : Int) then ((some (l0_2.drop ((Int.tmod (wrap64 ((Int.tmod a0_3 (l0_2.length : Int)) + (l0_2.length : Int))) (l0_2.length : Int)) : Int).toNat : List (S48))).bind fun y327 => (if y324.length + y327.length < 2513169434916 then ((some (y324 ++ y327 : List (S48))).bind fun y332 => ((some (l0_2.take ((Int.tmod (wrap64 ((Int.tmod a0_3 (l0_2.length : Int)) + (l0_2.length : Int))) (l0_2.length : Int)) : Int).toNat : List (S48))).bind fun y335 => (if y332.length + y335.length < 2513169434916 then ((shape_Draw.f kj32 a0_0 a0_1 (y332 ++ y335)).bind fun bt343 => (if bt343.2.2.2 = 0 then ((incunableref05_Same.f bt343.1 bt343.2.1 bt343.2.2.1 t308 t309 t310).bind fun t350 => (if t350 = true then ((incunablelaw15_Sane.f kj32).bind fun t351 => (some t351)) else (some false))) else (some false))) else (none)))) else (none))) else (none)) else (none)))) = some r := by rw [if_neg (show ¬ (false = true) by decide)] at H; exact H
                clear H
                have H := H1
                clear H1
                by_cases c38 : (l0_2.length : Int) = 0
                · rw [if_pos c38] at H
                  exact absurd H (by simp)
                · rw [if_neg c38] at H
                  have c38b0 : ((l0_2.length : Int) == 0) = false := beq_eq_false_iff_ne.mpr c38
                  have c38b1 : ((l0_2.length : Int) != 0) = true := bne_iff_ne.mpr c38
                  have c38b2 : ¬ (l0_2 = []) := fun h_ => c38 (by rw [h_]; rfl)
                  obtain ⟨y324, hy324⟩ : ∃ y_ : List (S48), y_ = (([] : List (S48))) := ⟨_, rfl⟩
                  replace H : (if 0 ≤ (Int.tmod (wrap64 ((Int.tmod a0_3 (l0_2.length : Int)) + (l0_2.length : Int))) (l0_2.length : Int)) then (if (Int.tmod (wrap64 ((Int.tmod a0_3 (l0_2.length : Int)) + (l0_2.length : Int))) (l0_2.length : Int)) ≤ (l0_2.length : Int) then ((some (l0_2.drop ((Int.tmod (wrap64 ((Int.tmod a0_3 (l0_2.length : Int)) + (l0_2.length : Int))) (l0_2.length : Int)) : Int).toNat : List (S48))).bind fun y327 => (if y324.length + y327.length < 2513169434916 then ((some (y324 ++ y327 : List (S48))).bind fun y332 => ((some (l0_2.take ((Int.tmod (wrap64 ((Int.tmod a0_3 (l0_2.length : Int)) + (l0_2.length : Int))) (l0_2.length : Int)) : Int).toNat : List (S48))).bind fun y335 => (if y332.length + y335.length < 2513169434916 then ((shape_Draw.f kj32 a0_0 a0_1 (y332 ++ y335)).bind fun bt343 => (if bt343.2.2.2 = 0 then ((incunableref05_Same.f bt343.1 bt343.2.1 bt343.2.2.1 t308 t309 t310).bind fun t350 => (if t350 = true then ((incunablelaw15_Sane.f kj32).bind fun t351 => (some t351)) else (some false))) else (some false))) else (none)))) else (none))) else (none)) else (none)) = some r := by first | (rw [hy324]; with_reducible exact H) | (have H2_ := (Option.bind_some _ _).symm.trans H; rw [hy324]; with_reducible exact H2_) | (have H2_ := (Option.bind_some _ _).symm.trans H; with_reducible exact H2_) | with_reducible exact H | (rw [hy324]; exact H) | exact H
                  have Ny324 := Aside0.mk hy324
                  clear hy324
                  obtain ⟨ji39, hji39⟩ : ∃ j_ : Int, (Int.tmod (wrap64 ((Int.tmod a0_3 (l0_2.length : Int)) + (l0_2.length : Int))) (l0_2.length : Int)) = j_ := ⟨_, rfl⟩
                  replace H : (if 0 ≤ (ji39) then (if (ji39) ≤ (l0_2.length : Int) then ((some (l0_2.drop ((ji39) : Int).toNat : List (S48))).bind fun y327 => (if y324.length + y327.length < 2513169434916 then ((some (y324 ++ y327 : List (S48))).bind fun y332 => ((some (l0_2.take ((ji39) : Int).toNat : List (S48))).bind fun y335 => (if y332.length + y335.length < 2513169434916 then ((shape_Draw.f kj32 a0_0 a0_1 (y332 ++ y335)).bind fun bt343 => (if bt343.2.2.2 = 0 then ((incunableref05_Same.f bt343.1 bt343.2.1 bt343.2.2.1 t308 t309 t310).bind fun t350 => (if t350 = true then ((incunablelaw15_Sane.f kj32).bind fun t351 => (some t351)) else (some false))) else (some false))) else (none)))) else (none))) else (none)) else (none)) = some r := by first | (rw [hji39] at H; exact H) | (simp only [hji39] at H ⊢; exact H)
                  by_cases c40 : 0 ≤ (ji39)
                  · rw [if_pos c40] at H
                    have c40b0 := eq_true c40
                    have c40b1 : decide (0 ≤ (ji39)) = true := decide_eq_true c40
                    clear c40
                    by_cases c41 : (ji39) ≤ (l0_2.length : Int)
                    · rw [if_pos c41] at H
                      have c41b0 := eq_true c41
                      have c41b1 : decide ((ji39) ≤ (l0_2.length : Int)) = true := decide_eq_true c41
                      clear c41
                      obtain ⟨y327, hy327⟩ : ∃ y_ : List (S48), y_ = (l0_2.drop ((ji39) : Int).toNat) := ⟨_, rfl⟩
                      replace H : (if y324.length + y327.length < 2513169434916 then ((some (y324 ++ y327 : List (S48))).bind fun y332 => ((some (l0_2.take ((ji39) : Int).toNat : List (S48))).bind fun y335 => (if y332.length + y335.length < 2513169434916 then ((shape_Draw.f kj32 a0_0 a0_1 (y332 ++ y335)).bind fun bt343 => (if bt343.2.2.2 = 0 then ((incunableref05_Same.f bt343.1 bt343.2.1 bt343.2.2.1 t308 t309 t310).bind fun t350 => (if t350 = true then ((incunablelaw15_Sane.f kj32).bind fun t351 => (some t351)) else (some false))) else (some false))) else (none)))) else (none)) = some r := by first | (rw [hy327]; with_reducible exact H) | (have H2_ := (Option.bind_some _ _).symm.trans H; rw [hy327]; with_reducible exact H2_) | (have H2_ := (Option.bind_some _ _).symm.trans H; with_reducible exact H2_) | with_reducible exact H | (rw [hy327]; exact H) | exact H
                      have Ny327 := Aside0.mk hy327
                      clear hy327
                      by_cases c42 : y324.length + y327.length < 2513169434916
                      · rw [if_pos c42] at H
                        have LMc42 := Aside0.mk c42
                        clear c42
                        obtain ⟨y332, hy332⟩ : ∃ y_ : List (S48), y_ = (y324 ++ y327) := ⟨_, rfl⟩
                        replace H : ((some (l0_2.take ((ji39) : Int).toNat : List (S48))).bind fun y335 => (if y332.length + y335.length < 2513169434916 then ((shape_Draw.f kj32 a0_0 a0_1 (y332 ++ y335)).bind fun bt343 => (if bt343.2.2.2 = 0 then ((incunableref05_Same.f bt343.1 bt343.2.1 bt343.2.2.1 t308 t309 t310).bind fun t350 => (if t350 = true then ((incunablelaw15_Sane.f kj32).bind fun t351 => (some t351)) else (some false))) else (some false))) else (none))) = some r := by first | (rw [hy332]; with_reducible exact H) | (have H2_ := (Option.bind_some _ _).symm.trans H; rw [hy332]; with_reducible exact H2_) | (have H2_ := (Option.bind_some _ _).symm.trans H; with_reducible exact H2_) | with_reducible exact H | (rw [hy332]; exact H) | exact H
                        have Ny332 := Aside0.mk hy332
                        clear hy332
                        have c43b0 := eq_true (of_decide_eq_true (by first | (with_reducible assumption) | assumption) : 0 ≤ (ji39))
                        have c44b0 := eq_true (of_decide_eq_true (by first | (with_reducible assumption) | assumption) : (ji39) ≤ (l0_2.length : Int))
                        obtain ⟨y335, hy335⟩ : ∃ y_ : List (S48), y_ = (l0_2.take ((ji39) : Int).toNat) := ⟨_, rfl⟩
                        replace H : (if y332.length + y335.length < 2513169434916 then ((shape_Draw.f kj32 a0_0 a0_1 (y332 ++ y335)).bind fun bt343 => (if bt343.2.2.2 = 0 then ((incunableref05_Same.f bt343.1 bt343.2.1 bt343.2.2.1 t308 t309 t310).bind fun t350 => (if t350 = true then ((incunablelaw15_Sane.f kj32).bind fun t351 => (some t351)) else (some false))) else (some false))) else (none)) = some r := by first | (rw [hy335]; with_reducible exact H) | (have H2_ := (Option.bind_some _ _).symm.trans H; rw [hy335]; with_reducible exact H2_) | (have H2_ := (Option.bind_some _ _).symm.trans H; with_reducible exact H2_) | with_reducible exact H | (rw [hy335]; exact H) | exact H
                        have Ny335 := Aside0.mk hy335
                        clear hy335
                        by_cases c45 : y332.length + y335.length < 2513169434916
                        · rw [if_pos c45] at H
                          have LMc45 := Aside0.mk c45
                          clear c45
                          obtain ⟨y340, hy340⟩ : ∃ y_ : List (S48), y_ = (y332 ++ y335) := ⟨_, rfl⟩
                          replace H : ((shape_Draw.f kj32 a0_0 a0_1 y340).bind fun bt343 => (if bt343.2.2.2 = 0 then ((incunableref05_Same.f bt343.1 bt343.2.1 bt343.2.2.1 t308 t309 t310).bind fun t350 => (if t350 = true then ((incunablelaw15_Sane.f kj32).bind fun t351 => (some t351)) else (some false))) else (some false))) = some r := by first | (rw [hy340]; with_reducible exact H) | (have H2_ := (Option.bind_some _ _).symm.trans H; rw [hy340]; with_reducible exact H2_) | (have H2_ := (Option.bind_some _ _).symm.trans H; with_reducible exact H2_) | with_reducible exact H | (rw [hy340]; exact H) | exact H
                          have Ny340 := Aside0.mk hy340
                          clear hy340
                          replace H := Option.bind_eq_some_iff.mp H
                          obtain ⟨⟨t343, t344, t345, t348⟩, A460, H⟩ := H
                          replace H : (if t348 = 0 then ((incunableref05_Same.f t343 t344 t345 t308 t309 t310).bind fun t350 => (if t350 = true then ((incunablelaw15_Sane.f kj32).bind fun t351 => (some t351)) else (some false))) else (some false)) = some r := H
                          have A46 := Aside0.mk A460
                          clear A460
                          by_cases c47 : t348 = 0
                          · rw [if_pos c47] at H
                            have c47b0 : (t348 == 0) = true := beq_iff_eq.mpr c47
                            have c47b1 : (t348 != 0) = false := bne_eq_false_iff_eq.mpr c47
                            clear c47
                            replace H := Option.bind_eq_some_iff.mp H
                            obtain ⟨t350, A480, H⟩ := H
                            replace H : (if t350 = true then ((incunablelaw15_Sane.f kj32).bind fun t351 => (some t351)) else (some false)) = some r := H
                            have A48 := Aside0.mk A480
                            clear A480
                            by_cases c49 : t350 = true
                            · subst c49
                              have H1 : ((incunablelaw15_Sane.f kj32).bind fun t351 => (some t351)) = some r := by rw [if_pos rfl] at H; exact H
                              clear H
                              have H := H1
                              clear H1
                              replace H := Option.bind_eq_some_iff.mp H
                              obtain ⟨t351, A500, H⟩ := H
                              replace H : (some t351) = some r := H
                              have A50 := Aside0.mk A500
                              clear A500
                              obtain rfl := Option.some.inj H
                              try go_wp2
                              have n0_ := Aside0.mk (Kd.V_drew HO_5.out)
                              have n1_ := Aside0.mk (Kd.V_drew HO_306002.out)
                              have n2_ := Aside0.mk (Kd.R_drew HO_315002.out)
                              have n3_ := Aside0.mk (Kd.R_drew HO_322002.out)
                              have n4_ := Aside0.mk (blk_drew BK305.out)
                              have n5_ := Aside0.mk (blk_drew BK314.out)
                              have n6_ := Aside0.mk (blk_drew BK321.out)
                              have n7_ := Aside0.mk (below_drew1 HB.out)
                              clear HO_5
                              clear HO_306002
                              clear HO_315002
                              clear HO_322002
                              clear BK305
                              clear BK314
                              clear BK321
                              clear HB
                              have HO_5 := n0_
                              have HO_306002 := n1_
                              have HO_315002 := n2_
                              have HO_322002 := n3_
                              have BK305 := n4_
                              have BK314 := n5_
                              have BK321 := n6_
                              have HB := n7_
                              clear n0_ n1_ n2_ n3_ n4_ n5_ n6_ n7_
                              have q52 : ((ji39) : Int) ≤ ((l0_2.length : Int) : Int) := of_decide_eq_true (by first | (with_reducible assumption) | assumption)
                              obtain ⟨i052, hi052, _, hsz52, _⟩ := info_parts info48
                              have hroom52 : l0_2.length ≤ c0_2 := (Kd.V_reads' HO_5.out).2.1
                              have hC52 : Kd.F k48 _ _ A0_2 l0_2.length l0_2 := (Kd.V_at (base := w.heap.size) HO_5.out).2.2
                              have q052 : (0 : Int) ≤ ((ji39) : Int) := of_decide_eq_true (by first | (with_reducible assumption) | assumption)
                              have hcut52 := cut_from (P := Try.prog) 40 48 .i64 Try.underlying40 hi052 5 hsz52 A0_2 l0_2.length c0_2 (ji39) q052 q52
                              have hr52 := Kd.F_cut (m := ((ji39) : Int).toNat) (c := c0_2) hC52 (by omega) hroom52
                              obtain ⟨A52, hA52⟩ : ∃ A1, A1 = (if c0_2 = ((ji39) : Int).toNat then A0_2 else (A0_2 : Option Addr).map (·.add (((ji39) : Int).toNat * 5))) := ⟨_, rfl⟩
                              obtain ⟨c52, hc52⟩ : ∃ c1, c1 = c0_2 - ((ji39) : Int).toNat := ⟨_, rfl⟩
                              have hy52 : y327.length = l0_2.length - ((ji39) : Int).toNat := (by rw [Ny327.out, List.length_drop] <;> omega)
                              rw [show (l0_2).drop ((ji39) : Int).toNat = y327 from Ny327.out.symm] at hr52
                              replace hr52 : Kd.F k48 _ _ A52 y327.length y327 := (by rw [hA52]; exact hr52)
                              rw [← hy52, ← hA52, ← hc52] at hcut52
                              have HO331 := Aside0.mk (show Kd.V k48 48 _ w.heap.size _ (.slice A52 y327.length c52) y327 from Kd.V_mk (by rw [hy52, hc52]; exact Nat.sub_le_sub_right hroom52 _) hr52)
                              have HC331 := Aside0.mk (show y327.length ≤ c52 from by rw [hy52, hc52]; exact Nat.sub_le_sub_right hroom52 _)
                              clear hr52 hC52 hroom52 hi052 hsz52 hc52
                              have KY52 := Aside0.mk hy52
                              have KA52 := Aside0.mk hA52
                              clear hy52 hA52
                              replace q52 := eq_true q52
                              have q53 : ((ji39) : Int) ≤ ((l0_2.length : Int) : Int) := of_decide_eq_true (by first | (with_reducible assumption) | assumption)
                              obtain ⟨i053, hi053, _, hsz53, _⟩ := info_parts info48
                              have hroom53 : l0_2.length ≤ c0_2 := (Kd.V_reads' HO_5.out).2.1
                              have hC53 : Kd.F k48 _ _ A0_2 l0_2.length l0_2 := (Kd.V_at (base := w.heap.size) HO_5.out).2.2
                              have hcut53 := cut_to (P := Try.prog) 40 48 .i64 Try.underlying40 hi053 A0_2 l0_2.length c0_2 (ji39) (of_decide_eq_true (by first | (with_reducible assumption) | assumption)) q53 hroom53
                              have hr53 := Kd.F_take (m := ((ji39) : Int).toNat) hC53 (by omega)
                              have hy53 : y335.length = ((ji39) : Int).toNat := (by rw [Ny335.out, List.length_take]; omega)
                              rw [← Ny335.out] at hr53
                              rw [← hy53] at hcut53
                              have HO339 := Aside0.mk (show Kd.V k48 48 _ w.heap.size _ (.slice A0_2 y335.length c0_2) y335 from Kd.V_mk (by omega) hr53)
                              have HC339 := Aside0.mk (show y335.length ≤ c0_2 from by omega)
                              clear hr53 hC53 hroom53 hi053 hsz53
                              have KY53 := Aside0.mk hy53
                              clear hy53
                              replace q53 := eq_true q53
                              refine start_ (n := 10) (S := fun w' => True) (ds := []) #[false, false, false, false, false, false, false, false, false, false] (by kernel_rfl) rfl rfl trivial (fun hHeld => ?_); refine with_tabW incunablelaw15_ShapeDraws.tab11 incunablelaw15_ShapeDraws.bits11 (fun HT_ HW_ => ?_)
                              generalize wc.drew = w51 at HO_5 HO_306002 HO_315002 HO_322002 BK305 BK314 BK321 HB HO331 HO339 hHeld ⊢
                              refine pure_ (i := 1) (N := some 68) (v := ?_) (a' := ?_) #[false, true, false, false, false, false, false, false, false, false] rfl rfl (any_of HT_.out (by kernel_rfl)) (fun _ _ _ h => h) (Or.inl ⟨by rfl, ?_⟩) ?_ ?_
                              rotate_left
                              · intro w'
                                go_simp
                                with_reducible rfl
                              rotate_left
                              · simp only [Act.put, List.setIfInBounds_toArray, List.set_cons_zero, List.set_cons_succ, i64_w, i32_w]
                                rfl
                              refine pure_ (i := 2) (N := some 69) (v := ?_) (a' := ?_) #[false, true, true, false, false, false, false, false, false, false] rfl rfl (any_of HT_.out (by kernel_rfl)) (fun _ _ _ h => h) (Or.inl ⟨by rfl, ?_⟩) ?_ ?_
                              rotate_left
                              · intro w'
                                go_simp
                                with_reducible rfl
                              rotate_left
                              · simp only [Act.put, List.setIfInBounds_toArray, List.set_cons_zero, List.set_cons_succ, i64_w, i32_w]
                                rfl
                              refine pure_ (i := 3) (N := some 70) (v := ?_) (a' := ?_) #[false, true, true, true, false, false, false, false, false, false] rfl rfl (any_of HT_.out (by kernel_rfl)) (fun _ _ _ h => h) (Or.inl ⟨by rfl, ?_⟩) ?_ ?_
                              rotate_left
                              · intro w'
                                go_simp
                                with_reducible rfl
                              rotate_left
                              · simp only [Act.put, List.setIfInBounds_toArray, List.set_cons_zero, List.set_cons_succ, i64_w, i32_w]
                                rfl
                              refine pure_ (i := 5) (N := some 72) (v := ?_) (a' := ?_) #[false, true, true, true, false, true, false, false, false, false] rfl rfl (any_of HT_.out (by kernel_rfl)) (fun _ _ _ h => h) (Or.inl ⟨by rfl, ?_⟩) ?_ ?_
                              rotate_left
                              · intro w'
                                go_simp
                                with_reducible rfl
                              rotate_left
                              · simp only [Act.put, List.setIfInBounds_toArray, List.set_cons_zero, List.set_cons_succ, i64_w, i32_w]
                                rfl
                              refine pure_ (i := 6) (N := some 73) (v := ?_) (a' := ?_) #[false, true, true, true, false, true, true, false, false, false] rfl rfl (any_of HT_.out (by kernel_rfl)) (fun _ _ _ h => h) (Or.inl ⟨by rfl, ?_⟩) ?_ ?_
                              rotate_left
                              · intro w'
                                go_simp
                                with_reducible rfl
                              rotate_left
                              · simp only [Act.put, List.setIfInBounds_toArray, List.set_cons_zero, List.set_cons_succ, i64_w, i32_w]
                                rfl
                              refine pure_ (i := 7) (N := some 74) (v := ?_) (a' := ?_) #[false, true, true, true, false, true, true, true, false, false] rfl rfl (any_of HT_.out (by kernel_rfl)) (fun _ _ _ h => h) (Or.inl ⟨by rfl, ?_⟩) ?_ ?_
                              rotate_left
                              · intro w'
                                go_simp
                                with_reducible rfl
                              rotate_left
                              · simp only [Act.put, List.setIfInBounds_toArray, List.set_cons_zero, List.set_cons_succ, i64_w, i32_w]
                                rfl
                              refine one_ (i := 0) (N := some 67) #[true, true, true, true, false, true, true, true, false, false] rfl rfl (one_of HT_.out (by kernel_rfl)) (by decide) (fun K hK => ?_)
                              refine Kd.N_lit_step k48 _ 48 ?hg (N' := 67) ?hd (xs := ([] : List (S48))) (inner := []) (ok := (fun k_ => (P0_2_ k_ ∨ w.heap.size ≤ k_) ∧ some k_ ≠ (.slice Ao17 t310.length co17 : Value).ownBlock ∧ some k_ ≠ (.slice Ao23 t317.length co23 : Value).ownBlock ∧ k_ ≠ gb305 ∧ k_ ≠ gb314 ∧ k_ ≠ gb321)) (okp := (fun k_ => (P0_2_ k_ ∨ w.heap.size ≤ k_) ∧ some k_ ≠ (.slice Ao17 t310.length co17 : Value).ownBlock ∧ some k_ ≠ (.slice Ao23 t317.length co23 : Value).ownBlock ∧ k_ ≠ gb305 ∧ k_ ≠ gb314 ∧ k_ ≠ gb321)) ?hr ?hp (fun _ hk => hk) ((show ∀ k_, w51.heap.size ≤ k_ → (fun k_ => (P0_2_ k_ ∨ w.heap.size ≤ k_) ∧ some k_ ≠ (.slice Ao17 t310.length co17 : Value).ownBlock ∧ some k_ ≠ (.slice Ao23 t317.length co23 : Value).ownBlock ∧ k_ ≠ gb305 ∧ k_ ≠ gb314 ∧ k_ ≠ gb321) k_ from fun k_ hk => ⟨(.inr (Nat.le_trans (below_size (by repeat (first | (with_reducible first | exact HB.out | apply below_alloc | apply pw_below_drewN | apply below_drew1 | refine below_set ?_ GE305.out | refine below_set ?_ GE314.out | refine below_set ?_ GE321.out) | exact HB.out))) hk)), Kd.fresh' (Kd.R_lt (rU HO_315002.out)) k_ hk, Kd.fresh' (Kd.R_lt (rU HO_322002.out)) k_ hk, Kd.freshB (bU BK305.out) k_ hk, Kd.freshB (bU BK314.out) k_ hk, Kd.freshB (bU BK321.out) k_ hk⟩) _ (Nat.le_refl _)) (Below.refl _ _) (Nat.le_refl _) (by simp) ?_; (case hd => rfl); (case hg => rfl); (case hr => first | (go_simp; done) | (go_simp; rfl)); (case hp => exact (Reps.none _ _))
                              intro v325 w54 ho55 hb hg_ hnew_
                              clear hg_ hnew_
                              (first | rw [← Ny324.out] at ho55 | (simp only [Int.reduceToNat] at ho55; rw [← Ny324.out] at ho55))
                              have n0_ := Aside0.mk (Kd.V_elder' (by (with_reducible repeat (first | apply Kd.V_alloc | apply Kd.V_drewN | apply Kd.V_drew)); exact HO_5.out) (Kd.N_base ho55) hb)
                              have n1_ := Aside0.mk (Kd.V_elder' (by (with_reducible repeat (first | apply Kd.V_alloc | apply Kd.V_drewN | apply Kd.V_drew)); exact HO_306002.out) (Kd.N_base ho55) hb)
                              have n2_ := Aside0.mk (Kd.R_below (rU HO_315002.out) hb)
                              have n3_ := Aside0.mk (Kd.R_below (rU HO_322002.out) hb)
                              have n4_ := Aside0.mk (Kd.V_elder' (by (with_reducible repeat (first | apply Kd.V_alloc | apply Kd.V_drewN | apply Kd.V_drew)); exact HO331.out) (Kd.N_base ho55) hb)
                              have n5_ := Aside0.mk (Kd.V_elder' (by (with_reducible repeat (first | apply Kd.V_alloc | apply Kd.V_drewN | apply Kd.V_drew)); exact HO339.out) (Kd.N_base ho55) hb)
                              have n6_ := Aside0.mk (Kd.N_lower ho55 (below_size (by repeat (first | (with_reducible first | exact HB.out | apply below_alloc | apply pw_below_drewN | apply below_drew1 | refine below_set ?_ GE305.out | refine below_set ?_ GE314.out | refine below_set ?_ GE321.out) | exact HB.out))))
                              have n7_ := Aside0.mk (blk_below (bU BK305.out) hb)
                              have n8_ := Aside0.mk (blk_below (bU BK314.out) hb)
                              have n9_ := Aside0.mk (blk_below (bU BK321.out) hb)
                              have n10_ := Aside0.mk (below_step (by repeat (first | (with_reducible first | exact HB.out | apply below_alloc | apply pw_below_drewN | apply below_drew1 | refine below_set ?_ GE305.out | refine below_set ?_ GE314.out | refine below_set ?_ GE321.out) | exact HB.out)) hb)
                              clear HO_5
                              clear HO_306002
                              clear HO_315002
                              clear HO_322002
                              clear HO331
                              clear HO339
                              clear BK305
                              clear BK314
                              clear BK321
                              clear HB
                              have HO_5 := n0_
                              have HO_306002 := n1_
                              have HO_315002 := n2_
                              have HO_322002 := n3_
                              have HO331 := n4_
                              have HO339 := n5_
                              have HO326 := n6_
                              have BK305 := n7_
                              have BK314 := n8_
                              have BK321 := n9_
                              have HB := n10_
                              clear n0_ n1_ n2_ n3_ n4_ n5_ n6_ n7_ n8_ n9_ n10_
                              clear hb ho55
                              refine hK.out _ _ trivial (fun hHeld => ?_)
                              clear hK K
                              refine norm_ (a' := ?_) ?_ ?_
                              rotate_left
                              · show Act.put _ (some 67) _ = _
                                simp only [Act.put, List.setIfInBounds_toArray, List.set_cons_zero, List.set_cons_succ, i64_w, i32_w]
                                rfl
                              refine one_ (i := 4) (N := some 71) #[true, true, true, true, true, true, true, true, false, false] rfl rfl (one_of HT_.out (by kernel_rfl)) (by decide) (fun K hK => ?_)
                              refine Kd.N_append_rows_step k48 (w0 := w) w.heap.size (by rfl) (.tmp 67) (.tmp 70) 40 48 (.agg #[(.int .i64 0), (.int .i64 0), (.slice none 0 0), (.int .i64 0), (.int .i64 0)]) 56 rfl Try.underlying40 info48 rfl (by decide) (by omega) v325 y324 y327 _ _ _ (fun k_ => (P0_2_ k_ ∨ w.heap.size ≤ k_) ∧ some k_ ≠ (.slice Ao17 t310.length co17 : Value).ownBlock ∧ some k_ ≠ (.slice Ao23 t317.length co23 : Value).ownBlock ∧ k_ ≠ gb305 ∧ k_ ≠ gb314 ∧ k_ ≠ gb321) (fun k_ => ((fun k_ => (P0_2_ k_ ∨ w.heap.size ≤ k_) ∧ some k_ ≠ (.slice Ao17 t310.length co17 : Value).ownBlock ∧ some k_ ≠ (.slice Ao23 t317.length co23 : Value).ownBlock ∧ k_ ≠ gb305 ∧ k_ ≠ gb314 ∧ k_ ≠ gb321)) k_ ∧ some k_ ≠ (v325 : Value).ownBlock) rfl rfl ?aO ?aR (fun _ hk => hk) ?aF ?aB ?aS ?aL ?_
                              (case aR => exact (by skip; exact Kd.V_F (Kd.V_mono (ok' := (fun k_ => ((fun k_ => (P0_2_ k_ ∨ w.heap.size ≤ k_) ∧ some k_ ≠ (.slice Ao17 t310.length co17 : Value).ownBlock ∧ some k_ ≠ (.slice Ao23 t317.length co23 : Value).ownBlock ∧ k_ ≠ gb305 ∧ k_ ≠ gb314 ∧ k_ ≠ gb321)) k_ ∧ some k_ ≠ (v325 : Value).ownBlock)) (HO331.out) (fun k_ hk => ⟨⟨hk.1.1, ⟨hk.1.2.1, ⟨hk.1.2.2.1, ⟨hk.1.2.2.2.1, ⟨hk.1.2.2.2.2.1, hk.1.2.2.2.2.2⟩⟩⟩⟩⟩, hk.2⟩))))
                              (case aB => exact (by repeat (first | (with_reducible first | exact HB.out | apply below_alloc | apply pw_below_drewN | apply below_drew1 | refine below_set ?_ GE305.out | refine below_set ?_ GE314.out | refine below_set ?_ GE321.out) | exact HB.out)))
                              (case aF => exact (fun k_ hk => ⟨(.inr (Nat.le_trans (below_size (by repeat (first | (with_reducible first | exact HB.out | apply below_alloc | apply pw_below_drewN | apply below_drew1 | refine below_set ?_ GE305.out | refine below_set ?_ GE314.out | refine below_set ?_ GE321.out) | exact HB.out))) hk)), Kd.fresh' (Kd.R_lt (rU HO_315002.out)) k_ hk, Kd.fresh' (Kd.R_lt (rU HO_322002.out)) k_ hk, Kd.freshB (bU BK305.out) k_ hk, Kd.freshB (bU BK314.out) k_ hk, Kd.freshB (bU BK321.out) k_ hk⟩))
                              (case aO => exact (by (with_reducible repeat (first | apply Kd.N_alloc | apply Kd.N_drewN | apply Kd.N_drew)); exact HO326.out))
                              (case aS => exact (below_size (by repeat (first | (with_reducible first | exact HB.out | apply below_alloc | apply pw_below_drewN | apply below_drew1 | refine below_set ?_ GE305.out | refine below_set ?_ GE314.out | refine below_set ?_ GE321.out) | exact HB.out))))
                              (case aL => have := LMc42.out; omega)
                              intro v333 w56 ho hb hg hat
                              rw [← Ny332.out] at ho
                              have n0_ := Aside0.mk (Kd.V_afterv (ok := (fun k_ => (P0_2_ k_ ∨ w.heap.size ≤ k_) ∧ some k_ ≠ (.slice Ao17 t310.length co17 : Value).ownBlock ∧ some k_ ≠ (.slice Ao23 t317.length co23 : Value).ownBlock ∧ k_ ≠ gb305 ∧ k_ ≠ gb314 ∧ k_ ≠ gb321)) (by (with_reducible repeat (first | apply Kd.V_alloc | apply Kd.V_drewN | apply Kd.V_drew)); exact HO_5.out) hg hat)
                              have n1_ := Aside0.mk (Kd.V_afterv (ok := (fun k_ => (P0_2_ k_ ∨ w.heap.size ≤ k_) ∧ some k_ ≠ (.slice Ao17 t310.length co17 : Value).ownBlock ∧ some k_ ≠ (.slice Ao23 t317.length co23 : Value).ownBlock ∧ k_ ≠ gb305 ∧ k_ ≠ gb314 ∧ k_ ≠ gb321)) (by (with_reducible repeat (first | apply Kd.V_alloc | apply Kd.V_drewN | apply Kd.V_drew)); exact HO_306002.out) hg hat)
                              have n2_ := Aside0.mk (Kd.R_over' (rU HO_315002.out) (Kd.N_typed (by (with_reducible repeat (first | apply Kd.N_alloc | apply Kd.N_drewN | apply Kd.N_drew)); exact HO326.out)) (by decide) hg)
                              have n3_ := Aside0.mk (Kd.R_over' (rU HO_322002.out) (Kd.N_typed (by (with_reducible repeat (first | apply Kd.N_alloc | apply Kd.N_drewN | apply Kd.N_drew)); exact HO326.out)) (by decide) hg)
                              have n4_ := Aside0.mk (blk_grown (bU BK305.out) hg (Kd.N_ne HO326.out BK305.out (by decide)))
                              have n5_ := Aside0.mk (blk_grown (bU BK314.out) hg (Kd.N_ne HO326.out BK314.out (by decide)))
                              have n6_ := Aside0.mk (blk_grown (bU BK321.out) hg (Kd.N_ne HO326.out BK321.out (by decide)))
                              have n7_ := Aside0.mk (Kd.V_afterv (ok := (fun k_ => (P0_2_ k_ ∨ w.heap.size ≤ k_) ∧ some k_ ≠ (.slice Ao17 t310.length co17 : Value).ownBlock ∧ some k_ ≠ (.slice Ao23 t317.length co23 : Value).ownBlock ∧ k_ ≠ gb305 ∧ k_ ≠ gb314 ∧ k_ ≠ gb321)) (by (with_reducible repeat (first | apply Kd.V_alloc | apply Kd.V_drewN | apply Kd.V_drew)); exact HO331.out) hg hat)
                              have n8_ := Aside0.mk (Kd.V_afterv (ok := (fun k_ => (P0_2_ k_ ∨ w.heap.size ≤ k_) ∧ some k_ ≠ (.slice Ao17 t310.length co17 : Value).ownBlock ∧ some k_ ≠ (.slice Ao23 t317.length co23 : Value).ownBlock ∧ k_ ≠ gb305 ∧ k_ ≠ gb314 ∧ k_ ≠ gb321)) (by (with_reducible repeat (first | apply Kd.V_alloc | apply Kd.V_drewN | apply Kd.V_drew)); exact HO339.out) hg hat)
                              have n9_ := Aside0.mk (hb)
                              have n10_ := Aside0.mk (ho)
                              clear HO_5
                              clear HO_306002
                              clear HO_315002
                              clear HO_322002
                              clear BK305
                              clear BK314
                              clear BK321
                              clear HO331
                              clear HO339
                              clear HB
                              clear HO326
                              have HO_5 := n0_
                              have HO_306002 := n1_
                              have HO_315002 := n2_
                              have HO_322002 := n3_
                              have BK305 := n4_
                              have BK314 := n5_
                              have BK321 := n6_
                              have HO331 := n7_
                              have HO339 := n8_
                              have HB := n9_
                              have HO334 := n10_
                              clear n0_ n1_ n2_ n3_ n4_ n5_ n6_ n7_ n8_ n9_ n10_
                              clear ho hb hg hat
                              refine hK.out _ _ trivial (fun hHeld => ?_)
                              clear hK K
                              refine norm_ (a' := ?_) ?_ ?_
                              rotate_left
                              · show Act.put _ (some 71) _ = _
                                simp only [Act.put, List.setIfInBounds_toArray, List.set_cons_zero, List.set_cons_succ, i64_w, i32_w]
                                rfl
                              refine one_ (i := 8) (N := some 75) #[true, true, true, true, true, true, true, true, true, false] rfl rfl (one_of HT_.out (by kernel_rfl)) (by decide) (fun K hK => ?_)
                              refine Kd.N_append_rows_step k48 (w0 := w) w.heap.size (by rfl) (.tmp 71) (.tmp 74) 40 48 (.agg #[(.int .i64 0), (.int .i64 0), (.slice none 0 0), (.int .i64 0), (.int .i64 0)]) 56 rfl Try.underlying40 info48 rfl (by decide) (by omega) v333 y332 y335 _ _ _ (fun k_ => (P0_2_ k_ ∨ w.heap.size ≤ k_) ∧ some k_ ≠ (.slice Ao17 t310.length co17 : Value).ownBlock ∧ some k_ ≠ (.slice Ao23 t317.length co23 : Value).ownBlock ∧ k_ ≠ gb305 ∧ k_ ≠ gb314 ∧ k_ ≠ gb321) (fun k_ => ((fun k_ => (P0_2_ k_ ∨ w.heap.size ≤ k_) ∧ some k_ ≠ (.slice Ao17 t310.length co17 : Value).ownBlock ∧ some k_ ≠ (.slice Ao23 t317.length co23 : Value).ownBlock ∧ k_ ≠ gb305 ∧ k_ ≠ gb314 ∧ k_ ≠ gb321)) k_ ∧ some k_ ≠ (v333 : Value).ownBlock) rfl rfl ?aO ?aR (fun _ hk => hk) ?aF ?aB ?aS ?aL ?_
                              (case aR => exact (by skip; exact Kd.V_F (Kd.V_mono (ok' := (fun k_ => ((fun k_ => (P0_2_ k_ ∨ w.heap.size ≤ k_) ∧ some k_ ≠ (.slice Ao17 t310.length co17 : Value).ownBlock ∧ some k_ ≠ (.slice Ao23 t317.length co23 : Value).ownBlock ∧ k_ ≠ gb305 ∧ k_ ≠ gb314 ∧ k_ ≠ gb321)) k_ ∧ some k_ ≠ (v333 : Value).ownBlock)) (HO339.out) (fun k_ hk => ⟨⟨hk.1.1, ⟨hk.1.2.1, ⟨hk.1.2.2.1, ⟨hk.1.2.2.2.1, ⟨hk.1.2.2.2.2.1, hk.1.2.2.2.2.2⟩⟩⟩⟩⟩, hk.2⟩))))
                              (case aB => exact (by repeat (first | (with_reducible first | exact HB.out | apply below_alloc | apply pw_below_drewN | apply below_drew1 | refine below_set ?_ GE305.out | refine below_set ?_ GE314.out | refine below_set ?_ GE321.out) | exact HB.out)))
                              (case aF => exact (fun k_ hk => ⟨(.inr (Nat.le_trans (below_size (by repeat (first | (with_reducible first | exact HB.out | apply below_alloc | apply pw_below_drewN | apply below_drew1 | refine below_set ?_ GE305.out | refine below_set ?_ GE314.out | refine below_set ?_ GE321.out) | exact HB.out))) hk)), Kd.fresh' (Kd.R_lt (rU HO_315002.out)) k_ hk, Kd.fresh' (Kd.R_lt (rU HO_322002.out)) k_ hk, Kd.freshB (bU BK305.out) k_ hk, Kd.freshB (bU BK314.out) k_ hk, Kd.freshB (bU BK321.out) k_ hk⟩))
                              (case aO => exact (by (with_reducible repeat (first | apply Kd.N_alloc | apply Kd.N_drewN | apply Kd.N_drew)); exact HO334.out))
                              (case aS => exact (below_size (by repeat (first | (with_reducible first | exact HB.out | apply below_alloc | apply pw_below_drewN | apply below_drew1 | refine below_set ?_ GE305.out | refine below_set ?_ GE314.out | refine below_set ?_ GE321.out) | exact HB.out))))
                              (case aL => have := LMc45.out; omega)
                              intro v341 w57 ho hb hg hat
                              rw [← Ny340.out] at ho
                              have n0_ := Aside0.mk (Kd.V_afterv (ok := (fun k_ => (P0_2_ k_ ∨ w.heap.size ≤ k_) ∧ some k_ ≠ (.slice Ao17 t310.length co17 : Value).ownBlock ∧ some k_ ≠ (.slice Ao23 t317.length co23 : Value).ownBlock ∧ k_ ≠ gb305 ∧ k_ ≠ gb314 ∧ k_ ≠ gb321)) (by (with_reducible repeat (first | apply Kd.V_alloc | apply Kd.V_drewN | apply Kd.V_drew)); exact HO_5.out) hg hat)
                              have n1_ := Aside0.mk (Kd.V_afterv (ok := (fun k_ => (P0_2_ k_ ∨ w.heap.size ≤ k_) ∧ some k_ ≠ (.slice Ao17 t310.length co17 : Value).ownBlock ∧ some k_ ≠ (.slice Ao23 t317.length co23 : Value).ownBlock ∧ k_ ≠ gb305 ∧ k_ ≠ gb314 ∧ k_ ≠ gb321)) (by (with_reducible repeat (first | apply Kd.V_alloc | apply Kd.V_drewN | apply Kd.V_drew)); exact HO_306002.out) hg hat)
                              have n2_ := Aside0.mk (Kd.R_over' (rU HO_315002.out) (Kd.N_typed (by (with_reducible repeat (first | apply Kd.N_alloc | apply Kd.N_drewN | apply Kd.N_drew)); exact HO334.out)) (by decide) hg)
                              have n3_ := Aside0.mk (Kd.R_over' (rU HO_322002.out) (Kd.N_typed (by (with_reducible repeat (first | apply Kd.N_alloc | apply Kd.N_drewN | apply Kd.N_drew)); exact HO334.out)) (by decide) hg)
                              have n4_ := Aside0.mk (blk_grown (bU BK305.out) hg (Kd.N_ne HO334.out BK305.out (by decide)))
                              have n5_ := Aside0.mk (blk_grown (bU BK314.out) hg (Kd.N_ne HO334.out BK314.out (by decide)))
                              have n6_ := Aside0.mk (blk_grown (bU BK321.out) hg (Kd.N_ne HO334.out BK321.out (by decide)))
                              have n7_ := Aside0.mk (Kd.V_afterv (ok := (fun k_ => (P0_2_ k_ ∨ w.heap.size ≤ k_) ∧ some k_ ≠ (.slice Ao17 t310.length co17 : Value).ownBlock ∧ some k_ ≠ (.slice Ao23 t317.length co23 : Value).ownBlock ∧ k_ ≠ gb305 ∧ k_ ≠ gb314 ∧ k_ ≠ gb321)) (by (with_reducible repeat (first | apply Kd.V_alloc | apply Kd.V_drewN | apply Kd.V_drew)); exact HO331.out) hg hat)
                              have n8_ := Aside0.mk (Kd.V_afterv (ok := (fun k_ => (P0_2_ k_ ∨ w.heap.size ≤ k_) ∧ some k_ ≠ (.slice Ao17 t310.length co17 : Value).ownBlock ∧ some k_ ≠ (.slice Ao23 t317.length co23 : Value).ownBlock ∧ k_ ≠ gb305 ∧ k_ ≠ gb314 ∧ k_ ≠ gb321)) (by (with_reducible repeat (first | apply Kd.V_alloc | apply Kd.V_drewN | apply Kd.V_drew)); exact HO339.out) hg hat)
                              have n9_ := Aside0.mk (hb)
                              have n10_ := Aside0.mk (ho)
                              clear HO_5
                              clear HO_306002
                              clear HO_315002
                              clear HO_322002
                              clear BK305
                              clear BK314
                              clear BK321
                              clear HO331
                              clear HO339
                              clear HB
                              clear HO334
                              have HO_5 := n0_
                              have HO_306002 := n1_
                              have HO_315002 := n2_
                              have HO_322002 := n3_
                              have BK305 := n4_
                              have BK314 := n5_
                              have BK321 := n6_
                              have HO331 := n7_
                              have HO339 := n8_
                              have HB := n9_
                              have HO342 := n10_
                              clear n0_ n1_ n2_ n3_ n4_ n5_ n6_ n7_ n8_ n9_ n10_
                              clear ho hb hg hat
                              refine hK.out _ _ trivial (fun hHeld => ?_)
                              clear hK K
                              refine norm_ (a' := ?_) ?_ ?_
                              rotate_left
                              · show Act.put _ (some 75) _ = _
                                simp only [Act.put, List.setIfInBounds_toArray, List.set_cons_zero, List.set_cons_succ, i64_w, i32_w]
                                rfl
                              refine pure_ (i := 9) (N := some 12) (v := ?_) (a' := ?_) #[true, true, true, true, true, true, true, true, true, true] rfl rfl (any_of HT_.out (by kernel_rfl)) (fun _ _ _ h => h) (Or.inl ⟨by rfl, ?_⟩) ?_ ?_
                              rotate_left
                              · intro w'
                                go_simp
                                with_reducible rfl
                              rotate_left
                              · simp only [Act.put, List.setIfInBounds_toArray, List.set_cons_zero, List.set_cons_succ, i64_w, i32_w]
                                rfl
                              refine done_ (done_of HT_.out (by kernel_rfl)) ?_
                              obtain ⟨Ao58, co58, eo58⟩ := Kd.N_slice HO342.out
                              subst eo58
                              try go_wp2_with (first | ((with_reducible refine gate_callee (f := 24) rfl ?_); refine goesL_ (some 80) rfl rfl Try.func24 (by kernel_rfl) rfl #[.int .i64 a0_0, .int .i64 a0_1, .slice Ao58 y340.length co58] rfl (by (try simp only [List.map_toArray, List.map_cons, List.map_nil]); first | done | rfl | (simp only [List.length_drop, List.length_take]; rfl)) ?_; (with_reducible refine (shape_Draw.calls kj32 a0_0 a0_1 _ _ y340 t343 t344 t345 t348 _ ?side1 ?side2 A46.out).mono ?_); (case side1 => repeat (first | exact (Kd.N_reads' HO342.out).2.2 | (with_reducible refine Kd.C_alloc ?_ _) | (with_reducible refine Kd.C_drewN ?_ _) | (with_reducible refine Kd.C_drew ?_))); (case side2 => exact (Kd.N_reads' HO342.out).2.1); rintro e w59 ⟨v346, rfl, ho0, hb⟩; refine ⟨_, rfl, ?_⟩; have n0_ := Aside0.mk (Kd.V_elder' (by (with_reducible repeat (first | apply Kd.V_alloc | apply Kd.V_drewN | apply Kd.V_drew)); exact HO_5.out) (Kd.R_base ho0) hb); have n1_ := Aside0.mk (Kd.V_elder' (by (with_reducible repeat (first | apply Kd.V_alloc | apply Kd.V_drewN | apply Kd.V_drew)); exact HO_306002.out) (Kd.R_base ho0) hb); have n2_ := Aside0.mk (Kd.R_elder' (rU HO_315002.out) (Kd.R_base ho0) hb); have n3_ := Aside0.mk (Kd.R_elder' (rU HO_322002.out) (Kd.R_base ho0) hb); have n4_ := Aside0.mk (Kd.V_elder' (by (with_reducible repeat (first | apply Kd.V_alloc | apply Kd.V_drewN | apply Kd.V_drew)); exact HO331.out) (Kd.R_base ho0) hb); have n5_ := Aside0.mk (Kd.V_elder' (by (with_reducible repeat (first | apply Kd.V_alloc | apply Kd.V_drewN | apply Kd.V_drew)); exact HO339.out) (Kd.R_base ho0) hb); have n6_ := Aside0.mk (Kd.N_elder' (by (with_reducible repeat (first | apply Kd.N_alloc | apply Kd.N_drewN | apply Kd.N_drew)); exact HO342.out) (Kd.R_base ho0) hb); have n7_ := Aside0.mk (Kd.R_lower (Kd.R_new' (Kd.R_new' (Kd.R_newM (M := fun k_ => (w.heap.size ≤ k_)) ho0 (below_size (by repeat (first | (with_reducible first | exact HB.out | apply below_alloc | apply pw_below_drewN | apply below_drew1 | refine below_set ?_ GE305.out | refine below_set ?_ GE314.out | refine below_set ?_ GE321.out) | exact HB.out))) (fun k_ h_ => h_)) (Kd.R_lt (rU HO_315002.out))) (Kd.R_lt (rU HO_322002.out))) (below_size (by repeat (first | (with_reducible first | exact HB.out | apply below_alloc | apply pw_below_drewN | apply below_drew1 | refine below_set ?_ GE305.out | refine below_set ?_ GE314.out | refine below_set ?_ GE321.out) | exact HB.out)))); have n8_ := Aside0.mk (blk_below (bU BK305.out) hb); have n9_ := Aside0.mk (blk_below (bU BK314.out) hb); have n10_ := Aside0.mk (blk_below (bU BK321.out) hb); have n11_ := Aside0.mk (below_step (by repeat (first | (with_reducible first | exact HB.out | apply below_alloc | apply pw_below_drewN | apply below_drew1 | refine below_set ?_ GE305.out | refine below_set ?_ GE314.out | refine below_set ?_ GE321.out) | exact HB.out)) hb); clear HO_5; clear HO_306002; clear HO_315002; clear HO_322002; clear HO331; clear HO339; clear HO342; clear BK305; clear BK314; clear BK321; clear HB; have HO_5 := n0_; have HO_306002 := n1_; have HO_315002 := n2_; have HO_322002 := n3_; have HO331 := n4_; have HO339 := n5_; have HO342 := n6_; have HO347 := n7_; have BK305 := n8_; have BK314 := n9_; have BK321 := n10_; have HB := n11_; clear n0_ n1_ n2_ n3_ n4_ n5_ n6_ n7_ n8_ n9_ n10_ n11_; (try clear hb); (try clear hb2); (try clear hk); (try clear hi); (try clear ho0)) | ((with_reducible refine gate_dst (N := 13) rfl ?_); (try (refine gate_guard (by rfl) ?_; dsimp only)); refine box_event ?hg (N := 13) ?hd (cs := #[.int .i64 0, .int .i64 0, .slice none 0 0]) (t := 24) ?hr ?_; (case hd => rfl); (case hg => rfl); (case hr => first | (go_simp; done) | (go_simp; rfl)); intro gb349 hg w60 hbox hb; have n0_ := Aside0.mk (Kd.V_below (Kd.V_elderB (by (with_reducible repeat (first | apply Kd.V_alloc | apply Kd.V_drewN | apply Kd.V_drew)); exact HO_5.out) gb349 (Nat.le_of_eq hg.symm)) hb); have n1_ := Aside0.mk (Kd.V_below (Kd.V_elderB (by (with_reducible repeat (first | apply Kd.V_alloc | apply Kd.V_drewN | apply Kd.V_drew)); exact HO_306002.out) gb349 (Nat.le_of_eq hg.symm)) hb); have n2_ := Aside0.mk (Kd.R_below (rU HO_315002.out) hb); have n3_ := Aside0.mk (Kd.R_below (rU HO_322002.out) hb); have n4_ := Aside0.mk (Kd.V_below (Kd.V_elderB (by (with_reducible repeat (first | apply Kd.V_alloc | apply Kd.V_drewN | apply Kd.V_drew)); exact HO331.out) gb349 (Nat.le_of_eq hg.symm)) hb); have n5_ := Aside0.mk (Kd.V_below (Kd.V_elderB (by (with_reducible repeat (first | apply Kd.V_alloc | apply Kd.V_drewN | apply Kd.V_drew)); exact HO339.out) gb349 (Nat.le_of_eq hg.symm)) hb); have n6_ := Aside0.mk (Kd.N_below (Kd.N_elderB (by (with_reducible repeat (first | apply Kd.N_alloc | apply Kd.N_drewN | apply Kd.N_drew)); exact HO342.out) gb349 (Nat.le_of_eq hg.symm)) hb); have n7_ := Aside0.mk (Kd.R_below (rU HO347.out) hb); have n8_ := Aside0.mk (blk_below (bU BK305.out) hb); have n9_ := Aside0.mk (blk_below (bU BK314.out) hb); have n10_ := Aside0.mk (blk_below (bU BK321.out) hb); have n11_ := Aside0.mk (below_step (by repeat (first | (with_reducible first | exact HB.out | apply below_alloc | apply pw_below_drewN | apply below_drew1 | refine below_set ?_ GE305.out | refine below_set ?_ GE314.out | refine below_set ?_ GE321.out) | exact HB.out)) hb); have n12_ := Aside0.mk (hbox); have n13_ := Aside0.mk ((by rw [hg]; exact (below_size (by repeat (first | (with_reducible first | exact HB.out | apply below_alloc | apply pw_below_drewN | apply below_drew1 | refine below_set ?_ GE305.out | refine below_set ?_ GE314.out | refine below_set ?_ GE321.out) | exact HB.out))) : w.heap.size ≤ gb349)); have n14_ := Aside0.mk ((by rw [hg]; exact (below_size (by repeat (first | (with_reducible first | exact HB.out | apply below_alloc | apply pw_below_drewN | apply below_drew1 | refine below_set ?_ GE305.out | refine below_set ?_ GE314.out | refine below_set ?_ GE321.out) | exact HB.out))) : w.heap.size ≤ gb349)); have n15_ := Aside0.mk ((by rw [hg]; exact Nat.ne_of_lt (blk_lt (bU BK305.out)) : gb305 ≠ gb349)); have n16_ := Aside0.mk ((by rw [hg]; exact Nat.ne_of_gt (blk_lt (bU BK305.out)) : gb349 ≠ gb305)); have n17_ := Aside0.mk ((by rw [hg]; exact Nat.ne_of_lt (blk_lt (bU BK314.out)) : gb314 ≠ gb349)); have n18_ := Aside0.mk ((by rw [hg]; exact Nat.ne_of_gt (blk_lt (bU BK314.out)) : gb349 ≠ gb314)); have n19_ := Aside0.mk ((by rw [hg]; exact Nat.ne_of_lt (blk_lt (bU BK321.out)) : gb321 ≠ gb349)); have n20_ := Aside0.mk ((by rw [hg]; exact Nat.ne_of_gt (blk_lt (bU BK321.out)) : gb349 ≠ gb321)); clear HO_5; clear HO_306002; clear HO_315002; clear HO_322002; clear HO331; clear HO339; clear HO342; clear HO347; clear BK305; clear BK314; clear BK321; clear HB; have HO_5 := n0_; have HO_306002 := n1_; have HO_315002 := n2_; have HO_322002 := n3_; have HO331 := n4_; have HO339 := n5_; have HO342 := n6_; have HO347 := n7_; have BK305 := n8_; have BK314 := n9_; have BK321 := n10_; have HB := n11_; have BK349 := n12_; have GW349 := n13_; have GE349 := n14_; have NB305_349 := n15_; have NB349_305 := n16_; have NB314_349 := n17_; have NB349_314 := n18_; have NB321_349 := n19_; have NB349_321 := n20_; clear n0_ n1_ n2_ n3_ n4_ n5_ n6_ n7_ n8_ n9_ n10_ n11_ n12_ n13_ n14_ n15_ n16_ n17_ n18_ n19_ n20_; clear hb hbox hg; have hnb61 := NB349_305.out; have hnc61 := NB305_349.out; have hnb62 := NB349_314.out; have hnc62 := NB314_349.out; have hnb63 := NB349_321.out; have hnc63 := NB321_349.out; have hcz64_0 : w60.cell? ⟨gb349, 0, none⟩ = some (.int .i64 0) := (blk_cell BK349.out 0).trans rfl; have hcz64_1 : w60.cell? ⟨gb349, 1, none⟩ = some (.int .i64 0) := (blk_cell BK349.out 1).trans rfl; have hcz64_2 : w60.cell? ⟨gb349, 2, none⟩ = some (.slice none 0 0) := (blk_cell BK349.out 2).trans rfl; have hfz64_0 := blk_frozen BK349.out 0; have hfz64_1 := blk_frozen BK349.out 1; have hfz64_2 := blk_frozen BK349.out 2; obtain ⟨Ao65, co65, eo65⟩ := Kd.R_slice HO347.out; subst eo65; have hnb66 := NB314_305.out; have hnc66 := NB305_314.out; have hnb67 := NB314_321.out; have hnc67 := NB321_314.out; have hcz68_0 : w60.cell? ⟨gb314, 0, none⟩ = some (.int .i64 t308) := (blk_cell BK314.out 0).trans rfl; have hcz68_1 : w60.cell? ⟨gb314, 1, none⟩ = some (.int .i64 t309) := (blk_cell BK314.out 1).trans rfl; have hcz68_2 : w60.cell? ⟨gb314, 2, none⟩ = some (.slice Ao17 t310.length co17) := (blk_cell BK314.out 2).trans rfl; have hfz68_0 := blk_frozen BK314.out 0; have hfz68_1 := blk_frozen BK314.out 1; have hfz68_2 := blk_frozen BK314.out 2) | (go_at_call 25; (with_reducible refine (incunableref05_Same.calls t343 t344 _ _ t345 t308 t309 _ _ t310 true _ ?side1 ?side2 ?side3 ?side4 A48.out).mono ?_); (case side1 => refine (Kd.R_reads' (e := 5) (base := w.heap.size) (ok := fun k_ => ((((w.heap.size ≤ k_) ∧ True) ∧ some k_ ≠ (.slice Ao17 t310.length co17 : Value).ownBlock) ∧ some k_ ≠ (.slice Ao23 t317.length co23 : Value).ownBlock)) (n := t345.length) (c := co65) ?_).2.2; exact (by (with_reducible repeat (first | apply Kd.R_alloc | apply Kd.R_drewN | apply Kd.R_drew)); exact (Kd.R_mono (Kd.R_far (p := ⟨gb349, 2, none⟩) (Kd.R_far (p := ⟨gb349, 1, none⟩) (Kd.R_far (p := ⟨gb349, 0, none⟩) (Kd.R_types HO347.out BK349.out (by decide)) (fun _ hk => hk.2) (.int .i64 t343)) (fun _ hk => hk.2) (.int .i64 t344)) (fun _ hk => hk.2) (.slice Ao65 t345.length co65)) (fun _ h_ => h_.1)))); (case side2 => exact (Kd.R_reads' HO347.out).2.1); (case side3 => refine (Kd.R_reads' (e := 5) (base := w.heap.size) (ok := fun k_ => (((w.heap.size ≤ k_) ∧ some k_ ≠ (.slice Ao23 t317.length co23 : Value).ownBlock) ∧ some k_ ≠ (.slice Ao65 t345.length co65 : Value).ownBlock)) (n := t310.length) (c := co17) ?_).2.2; exact (by (with_reducible repeat (first | apply Kd.R_alloc | apply Kd.R_drewN | apply Kd.R_drew)); exact (Kd.R_mono (Kd.R_far (p := ⟨gb349, 2, none⟩) (Kd.R_far (p := ⟨gb349, 1, none⟩) (Kd.R_far (p := ⟨gb349, 0, none⟩) (Kd.R_types HO_315002.out BK349.out (by decide)) (fun _ hk => hk.2) (.int .i64 t343)) (fun _ hk => hk.2) (.int .i64 t344)) (fun _ hk => hk.2) (.slice Ao65 t345.length co65)) (fun _ h_ => h_.1)))); (case side4 => exact (Kd.R_reads' HO_315002.out).2.1); rintro e w69 ⟨rfl, hb⟩; have n0_ := Aside0.mk (Kd.V_below (by (with_reducible repeat (first | apply Kd.V_alloc | apply Kd.V_drewN | apply Kd.V_drew)); exact (Kd.V_mono (Kd.V_far (p := ⟨gb349, 2, none⟩) (Kd.V_far (p := ⟨gb349, 1, none⟩) (Kd.V_far (p := ⟨gb349, 0, none⟩) (Kd.V_mono HO_5.out (fun k_ hk => (⟨hk, hk.2⟩ : _ ∧ k_ ≠ gb349))) (fun _ hk => hk.2) (.int .i64 t343)) (fun _ hk => hk.2) (.int .i64 t344)) (fun _ hk => hk.2) (.slice Ao65 t345.length co65)) (fun _ h_ => h_.1))) hb); have n1_ := Aside0.mk (Kd.V_below (by (with_reducible repeat (first | apply Kd.V_alloc | apply Kd.V_drewN | apply Kd.V_drew)); exact (Kd.V_mono (Kd.V_far (p := ⟨gb349, 2, none⟩) (Kd.V_far (p := ⟨gb349, 1, none⟩) (Kd.V_far (p := ⟨gb349, 0, none⟩) (Kd.V_mono HO_306002.out (fun k_ hk => (⟨hk, hk.2⟩ : _ ∧ k_ ≠ gb349))) (fun _ hk => hk.2) (.int .i64 t343)) (fun _ hk => hk.2) (.int .i64 t344)) (fun _ hk => hk.2) (.slice Ao65 t345.length co65)) (fun _ h_ => h_.1))) hb); have n2_ := Aside0.mk (Kd.R_below (by (with_reducible repeat (first | apply Kd.R_alloc | apply Kd.R_drewN | apply Kd.R_drew)); exact (Kd.R_mono (Kd.R_far (p := ⟨gb349, 2, none⟩) (Kd.R_far (p := ⟨gb349, 1, none⟩) (Kd.R_far (p := ⟨gb349, 0, none⟩) (Kd.R_types HO_315002.out BK349.out (by decide)) (fun _ hk => hk.2) (.int .i64 t343)) (fun _ hk => hk.2) (.int .i64 t344)) (fun _ hk => hk.2) (.slice Ao65 t345.length co65)) (fun _ h_ => h_.1))) hb); have n3_ := Aside0.mk (Kd.R_below (by (with_reducible repeat (first | apply Kd.R_alloc | apply Kd.R_drewN | apply Kd.R_drew)); exact (Kd.R_mono (Kd.R_far (p := ⟨gb349, 2, none⟩) (Kd.R_far (p := ⟨gb349, 1, none⟩) (Kd.R_far (p := ⟨gb349, 0, none⟩) (Kd.R_types HO_322002.out BK349.out (by decide)) (fun _ hk => hk.2) (.int .i64 t343)) (fun _ hk => hk.2) (.int .i64 t344)) (fun _ hk => hk.2) (.slice Ao65 t345.length co65)) (fun _ h_ => h_.1))) hb); have n4_ := Aside0.mk (Kd.V_below (by (with_reducible repeat (first | apply Kd.V_alloc | apply Kd.V_drewN | apply Kd.V_drew)); exact (Kd.V_mono (Kd.V_far (p := ⟨gb349, 2, none⟩) (Kd.V_far (p := ⟨gb349, 1, none⟩) (Kd.V_far (p := ⟨gb349, 0, none⟩) (Kd.V_mono HO331.out (fun k_ hk => (⟨hk, hk.2⟩ : _ ∧ k_ ≠ gb349))) (fun _ hk => hk.2) (.int .i64 t343)) (fun _ hk => hk.2) (.int .i64 t344)) (fun _ hk => hk.2) (.slice Ao65 t345.length co65)) (fun _ h_ => h_.1))) hb); have n5_ := Aside0.mk (Kd.V_below (by (with_reducible repeat (first | apply Kd.V_alloc | apply Kd.V_drewN | apply Kd.V_drew)); exact (Kd.V_mono (Kd.V_far (p := ⟨gb349, 2, none⟩) (Kd.V_far (p := ⟨gb349, 1, none⟩) (Kd.V_far (p := ⟨gb349, 0, none⟩) (Kd.V_mono HO339.out (fun k_ hk => (⟨hk, hk.2⟩ : _ ∧ k_ ≠ gb349))) (fun _ hk => hk.2) (.int .i64 t343)) (fun _ hk => hk.2) (.int .i64 t344)) (fun _ hk => hk.2) (.slice Ao65 t345.length co65)) (fun _ h_ => h_.1))) hb); have n6_ := Aside0.mk (Kd.N_below (by (with_reducible repeat (first | apply Kd.N_alloc | apply Kd.N_drewN | apply Kd.N_drew)); exact (Kd.N_mono (Kd.N_far (p := ⟨gb349, 2, none⟩) (Kd.N_far (p := ⟨gb349, 1, none⟩) (Kd.N_far (p := ⟨gb349, 0, none⟩) (Kd.N_mono HO342.out (fun k_ hk => (⟨hk, hk.2⟩ : _ ∧ k_ ≠ gb349))) (fun _ hk => hk.2) (.int .i64 t343)) (fun _ hk => hk.2) (.int .i64 t344)) (fun _ hk => hk.2) (.slice Ao65 t345.length co65)) (fun _ h_ => h_.1))) hb); have n7_ := Aside0.mk (Kd.R_below (by (with_reducible repeat (first | apply Kd.R_alloc | apply Kd.R_drewN | apply Kd.R_drew)); exact (Kd.R_mono (Kd.R_far (p := ⟨gb349, 2, none⟩) (Kd.R_far (p := ⟨gb349, 1, none⟩) (Kd.R_far (p := ⟨gb349, 0, none⟩) (Kd.R_types HO347.out BK349.out (by decide)) (fun _ hk => hk.2) (.int .i64 t343)) (fun _ hk => hk.2) (.int .i64 t344)) (fun _ hk => hk.2) (.slice Ao65 t345.length co65)) (fun _ h_ => h_.1))) hb); have n8_ := Aside0.mk (blk_below (g := gb305) (o := .cells #[.int .i64 a0_0, .int .i64 a0_1, .slice A0_2 l0_2.length c0_2, .int .i64 a0_3] 50 (0, 0)) (by refine bF ?_ ?_; exact NB305_349.out; refine bF ?_ ?_; exact NB305_349.out; refine bF ?_ ?_; exact NB305_349.out; exact bU BK305.out) hb); have n9_ := Aside0.mk (blk_below (g := gb314) (o := .cells #[.int .i64 t308, .int .i64 t309, .slice Ao17 t310.length co17] 24 (0, 0)) (by refine bF ?_ ?_; exact NB314_349.out; refine bF ?_ ?_; exact NB314_349.out; refine bF ?_ ?_; exact NB314_349.out; exact bU BK314.out) hb); have n10_ := Aside0.mk (blk_below (g := gb321) (o := .cells #[.int .i64 t315, .int .i64 t316, .slice Ao23 t317.length co23] 24 (0, 0)) (by refine bF ?_ ?_; exact NB321_349.out; refine bF ?_ ?_; exact NB321_349.out; refine bF ?_ ?_; exact NB321_349.out; exact bU BK321.out) hb); have n11_ := Aside0.mk (blk_below (g := gb349) (o := .cells #[.int .i64 t343, .int .i64 t344, .slice Ao65 t345.length co65] 24 (0, 0)) (by (with_reducible repeat (first | refine blk_drewN ?_ _ | refine blk_drew ?_ | refine blk_alloc ?_ _)); refine blk_put (cs := #[.int .i64 t343, .int .i64 t344, .slice none 0 0]) ?_ 2 _ rfl; (with_reducible repeat (first | refine blk_drewN ?_ _ | refine blk_drew ?_ | refine blk_alloc ?_ _)); refine blk_put (cs := #[.int .i64 t343, .int .i64 0, .slice none 0 0]) ?_ 1 _ rfl; (with_reducible repeat (first | refine blk_drewN ?_ _ | refine blk_drew ?_ | refine blk_alloc ?_ _)); refine blk_put (cs := #[.int .i64 0, .int .i64 0, .slice none 0 0]) ?_ 0 _ rfl; exact bU BK349.out) hb); have n12_ := Aside0.mk (below_step (by repeat (first | (with_reducible first | exact HB.out | apply below_alloc | apply pw_below_drewN | apply below_drew1 | refine below_set ?_ GE305.out | refine below_set ?_ GE314.out | refine below_set ?_ GE321.out | refine below_set ?_ GE349.out) | exact HB.out)) hb); clear HO_5; clear HO_306002; clear HO_315002; clear HO_322002; clear HO331; clear HO339; clear HO342; clear HO347; clear BK305; clear BK314; clear BK321; clear BK349; clear HB; have HO_5 := n0_; have HO_306002 := n1_; have HO_315002 := n2_; have HO_322002 := n3_; have HO331 := n4_; have HO339 := n5_; have HO342 := n6_; have HO347 := n7_; have BK305 := n8_; have BK314 := n9_; have BK321 := n10_; have BK349 := n11_; have HB := n12_; clear n0_ n1_ n2_ n3_ n4_ n5_ n6_ n7_ n8_ n9_ n10_ n11_ n12_; (try clear hb); (try clear hb2); (try clear hk); (try clear hi)) | (go_at_call 11; (with_reducible refine (incunablelaw15_Sane.calls kj32  t351 _ A50.out).mono ?_); rintro e w70 ⟨rfl, hb⟩; have n0_ := Aside0.mk (Kd.V_below (by (with_reducible repeat (first | apply Kd.V_alloc | apply Kd.V_drewN | apply Kd.V_drew)); exact HO_5.out) hb); have n1_ := Aside0.mk (Kd.V_below (by (with_reducible repeat (first | apply Kd.V_alloc | apply Kd.V_drewN | apply Kd.V_drew)); exact HO_306002.out) hb); have n2_ := Aside0.mk (Kd.R_below (rU HO_315002.out) hb); have n3_ := Aside0.mk (Kd.R_below (rU HO_322002.out) hb); have n4_ := Aside0.mk (Kd.V_below (by (with_reducible repeat (first | apply Kd.V_alloc | apply Kd.V_drewN | apply Kd.V_drew)); exact HO331.out) hb); have n5_ := Aside0.mk (Kd.V_below (by (with_reducible repeat (first | apply Kd.V_alloc | apply Kd.V_drewN | apply Kd.V_drew)); exact HO339.out) hb); have n6_ := Aside0.mk (Kd.N_below (by (with_reducible repeat (first | apply Kd.N_alloc | apply Kd.N_drewN | apply Kd.N_drew)); exact HO342.out) hb); have n7_ := Aside0.mk (Kd.R_below (rU HO347.out) hb); have n8_ := Aside0.mk (blk_below (bU BK305.out) hb); have n9_ := Aside0.mk (blk_below (bU BK314.out) hb); have n10_ := Aside0.mk (blk_below (bU BK321.out) hb); have n11_ := Aside0.mk (blk_below (bU BK349.out) hb); have n12_ := Aside0.mk (below_step (by repeat (first | (with_reducible first | exact HB.out | apply below_alloc | apply pw_below_drewN | apply below_drew1 | refine below_set ?_ GE305.out | refine below_set ?_ GE314.out | refine below_set ?_ GE321.out | refine below_set ?_ GE349.out) | exact HB.out)) hb); clear HO_5; clear HO_306002; clear HO_315002; clear HO_322002; clear HO331; clear HO339; clear HO342; clear HO347; clear BK305; clear BK314; clear BK321; clear BK349; clear HB; have HO_5 := n0_; have HO_306002 := n1_; have HO_315002 := n2_; have HO_322002 := n3_; have HO331 := n4_; have HO339 := n5_; have HO342 := n6_; have HO347 := n7_; have BK305 := n8_; have BK314 := n9_; have BK321 := n10_; have BK349 := n11_; have HB := n12_; clear n0_ n1_ n2_ n3_ n4_ n5_ n6_ n7_ n8_ n9_ n10_ n11_ n12_; (try clear hb); (try clear hb2); (try clear hk); (try clear hi)))
                              go_ret
                              exact ⟨by first | rfl | (simp [errW_none, errW_some] <;> rfl) | (simp only [← hji39]; first | rfl | (simp [errW_none, errW_some] <;> rfl)) | (simp [*, errW_none, errW_some] <;> rfl), by repeat (first | (with_reducible first | exact HB.out | apply below_alloc | apply pw_below_drewN | apply below_drew1 | refine below_set ?_ GE305.out | refine below_set ?_ GE314.out | refine below_set ?_ GE321.out | refine below_set ?_ GE349.out) | exact HB.out)⟩
                            · replace c49 := Bool.eq_false_iff.mpr c49
                              subst c49
                              have H1 : (some false) = some r := by rw [if_neg (show ¬ (false = true) by decide)] at H; exact H
                              clear H
                              have H := H1
                              clear H1
                              exact absurd ((Option.some.inj H).trans HR_.out) (by decide)
                          · rw [if_neg c47] at H
                            have c47b0 : (t348 == 0) = false := beq_eq_false_iff_ne.mpr c47
                            have c47b1 : (t348 != 0) = true := bne_iff_ne.mpr c47
                            exact absurd ((Option.some.inj H).trans HR_.out) (by decide)
                        · rw [if_neg c45] at H
                          exact absurd H (by simp)
                      · rw [if_neg c42] at H
                        exact absurd H (by simp)
                    · rw [if_neg c41] at H
                      exact absurd H (by simp)
                  · rw [if_neg c40] at H
                    exact absurd H (by simp)

/-- THE ONE PURE STATEMENT of incunablelaw15_ShapeDraws: yours. -/
def incunablelaw15_ShapeDraws.Pure : Prop := ∀ (a0_0 : Int) (a0_1 : Int) (l0_2 : List (S48)) (a0_3 : Int), ((Lit.int .i64 a0_0).wf = true) → ((Lit.int .i64 a0_1).wf = true) → (l0_2.length ≤ 9223372036854775807 ∧ l0_2.length * 56 ≤ 140737488351232 ∧ ∀ y0_ ∈ l0_2, (((Lit.int .i64 y0_.f0.f0).wf = true) ∧ ((Lit.int .i64 y0_.f0.f1).wf = true) ∧ (y0_.f0.f2.length ≤ 9223372036854775807 ∧ y0_.f0.f2.length * 1 ≤ 140737488351232 ∧ ∀ y1_ ∈ y0_.f0.f2, (Lit.int .u8 y1_).wf = true)) ∧ ((Lit.int .i64 y0_.f1).wf = true) ∧ ((Lit.int .i64 y0_.f2).wf = true)) → ((Lit.int .i64 a0_3).wf = true) → ∃ k, incunablelaw15_ShapeDraws.f k a0_0 a0_1 l0_2 a0_3 = some true
theorem incunablelaw15_ShapeDraws.walk (P : incunablelaw15_ShapeDraws.Pure) (a0_0 : Int) (a0_1 : Int) (A0_2 : Option Addr) (c0_2 : Nat) (l0_2 : List (S48)) (a0_3 : Int) (w : World) (hr0_2 : Kd.C k48 w A0_2 l0_2.length l0_2) (hc0_2 : l0_2.length ≤ c0_2) (g0_0 : (Lit.int .i64 a0_0).wf = true) (g0_1 : (Lit.int .i64 a0_1).wf = true) (g0_2 : l0_2.length ≤ 9223372036854775807 ∧ l0_2.length * 56 ≤ 140737488351232 ∧ ∀ y0_ ∈ l0_2, (((Lit.int .i64 y0_.f0.f0).wf = true) ∧ ((Lit.int .i64 y0_.f0.f1).wf = true) ∧ (y0_.f0.f2.length ≤ 9223372036854775807 ∧ y0_.f0.f2.length * 1 ≤ 140737488351232 ∧ ∀ y1_ ∈ y0_.f0.f2, (Lit.int .u8 y1_).wf = true)) ∧ ((Lit.int .i64 y0_.f1).wf = true) ∧ ((Lit.int .i64 y0_.f2).wf = true)) (g0_3 : (Lit.int .i64 a0_3).wf = true) :
    Calls Try.prog 6 #[.agg #[.int .i64 a0_0, .int .i64 a0_1, .slice A0_2 l0_2.length c0_2, .int .i64 a0_3]] w fun e w' => e = .returned (.bool true) ∧ Below w.heap.size w w' := by
  obtain ⟨k, h⟩ := P a0_0 a0_1 l0_2 a0_3 g0_0 g0_1 g0_2 g0_3
  refine (incunablelaw15_ShapeDraws.calls k a0_0 a0_1 (fun _ => True) A0_2 c0_2 l0_2 a0_3 true w (Kd.V_of_C (fun W1 W2 e_ h_ => by cases W1; cases W2; cases e_; exact h_) hr0_2 hc0_2) h rfl).mono ?_
  rintro e w' ⟨rfl, hd⟩
  exact ⟨rfl, hd⟩

end Go.Proofs.Ytaflekobfbgedaa.PShapeDraws
