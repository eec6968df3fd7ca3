-- Written by a program of this session (wip/tools/myprint.py) over the kit's print. Not trusted: Lean checks it.
import Derived.Test.YtknclbodinfbeaaDoorPRunsModesx0
import Derived.Test.YtknclbodinfbeaaDoorPRunsModesx9
namespace Go.Proofs.YtknclbodinfbeaaDoor.PRunsModes
open Go.RowKit Go.Proofs.YtknclbodinfbeaaDoorW.PrintWords Go.Proofs.YtknclbodinfbeaaDoorW.PrintLast Go.Proofs.YtknclbodinfbeaaDoorW.PrintMore
attribute [local go_sem] max2_int min2_int max_two min_two max_three min_three max_four min_four   -- for this text's walks alone
set_option linter.unusedVariables false
set_option linter.unusedSimpArgs false

/-! ### incunableref04_Standard: function 38 -/
def incunableref04_Standard.f (a0 : Int) : Option ((List (S87))) := if a0 = 0 then (some (([(⟨1, 0, 0, 0⟩ : S87), (⟨2, 1, 1, 0⟩ : S87), (⟨3, 3, 3, 0⟩ : S87), (⟨4, 5, 11, 0⟩ : S87), (⟨5, 8, 43, 0⟩ : S87), (⟨5, 20, 299, 0⟩ : S87)] : List (S87)))) else (if a0 = 1 then (some (([(⟨1, 2, 0, 0⟩ : S87), (⟨2, 4, 4, 0⟩ : S87), (⟨3, 8, 20, 0⟩ : S87), (⟨4, 20, (-1), 1⟩ : S87), (⟨4, 0, 0, 2⟩ : S87)] : List (S87)))) else (if a0 = 2 then (some (([(⟨1, 0, 0, 0⟩ : S87), (⟨3, 2, 1, 0⟩ : S87), (⟨3, 2, (-1), 1⟩ : S87), (⟨3, 20, 5, 0⟩ : S87), (⟨3, 20, (-5), 1⟩ : S87)] : List (S87)))) else (some ([] : List (S87)))))
set_option maxHeartbeats 8000000 in
set_option maxRecDepth 100000 in
theorem incunableref04_Standard.calls (a0 : Int) (r : List (S87)) (w : World) (h : incunableref04_Standard.f a0 = some r) :
  Calls Tryd.prog 38 #[.int .i64 a0] w fun e w' => ∃ v0_ : Value, e = .returned (v0_) ∧ Kd.R k87 87 w' w.heap.size (fun _ => True) v0_ r ∧ Below w.heap.size w w' := by
 have hu87 := Tryd.underlying87
 have HB := Aside0.mk (Below.refl w.heap.size w)
 have H : (if a0 = 0 then (some (([(⟨1, 0, 0, 0⟩ : S87), (⟨2, 1, 1, 0⟩ : S87), (⟨3, 3, 3, 0⟩ : S87), (⟨4, 5, 11, 0⟩ : S87), (⟨5, 8, 43, 0⟩ : S87), (⟨5, 20, 299, 0⟩ : S87)] : List (S87)))) else (if a0 = 1 then (some (([(⟨1, 2, 0, 0⟩ : S87), (⟨2, 4, 4, 0⟩ : S87), (⟨3, 8, 20, 0⟩ : S87), (⟨4, 20, (-1), 1⟩ : S87), (⟨4, 0, 0, 2⟩ : S87)] : List (S87)))) else (if a0 = 2 then (some (([(⟨1, 0, 0, 0⟩ : S87), (⟨3, 2, 1, 0⟩ : S87), (⟨3, 2, (-1), 1⟩ : S87), (⟨3, 20, 5, 0⟩ : S87), (⟨3, 20, (-5), 1⟩ : S87)] : List (S87)))) else (some ([] : List (S87)))))) = some r := h
 clear h
 by_cases c2 : a0 = 0
 ·rw [if_pos c2] at H
  have c2b0 := beq_iff_eq.mpr c2
  have c2b1 := bne_eq_false_iff_eq.mpr c2
  clear c2
  obtain ⟨y309, hy_⟩ : ∃ y_ : List (S87), y_ = (([(⟨1, 0, 0, 0⟩ : S87), (⟨2, 1, 1, 0⟩ : S87), (⟨3, 3, 3, 0⟩ : S87), (⟨4, 5, 11, 0⟩ : S87), (⟨5, 8, 43, 0⟩ : S87), (⟨5, 20, 299, 0⟩ : S87)] : List (S87))) := ⟨_, rfl⟩
  replace H : (some y309) = some r := rh
  have Ny309 := aE hy_
  clear hy_
  obtain rfl := Option.some.inj H
  go_enter Tryd.func38, Tryd.ntmps38
  go_wp2_with (first | ((with_reducible refine gd 12 rfl ?_); refine Kd.R_lit k87 _ 87 ?hg (N := 12) ?hd (xs := ([(⟨1, 0, 0, 0⟩ : S87), (⟨2, 1, 1, 0⟩ : S87), (⟨3, 3, 3, 0⟩ : S87), (⟨4, 5, 11, 0⟩ : S87), (⟨5, 8, 43, 0⟩ : S87), (⟨5, 20, 299, 0⟩ : S87)] : List (S87))) (inner := [.int .i64 1, .int .i64 0, .int .i64 0, .int .i64 0, .int .i64 2, .int .i64 1, .int .i64 1, .int .i64 0, .int .i64 3, .int .i64 3, .int .i64 3, .int .i64 0, .int .i64 4, .int .i64 5, .int .i64 11, .int .i64 0, .int .i64 5, .int .i64 8, .int .i64 43, .int .i64 0, .int .i64 5, .int .i64 20, .int .i64 299, .int .i64 0]) (ok := fun _ => True) (okp := fun _ => True) ?hr ?hp (fun _ hk => hk) trivial (Below.refl _ _) (Nat.le_refl _) (by simp) ?_; (case hd => rfl); (case hg => rfl); (case hr => first | (go_simp; done) | (go_simp; rfl)); (case hp => exact (Reps.c4 (show Kd.M k87 _ _ _ (⟨1, 0, 0, 0⟩ : S87) [.int .i64 1, .int .i64 0, .int .i64 0, .int .i64 0] from (k87_mkM _ _ _ (⟨1, 0, 0, 0⟩ : S87) )) (Reps.c4 (show Kd.M k87 _ _ _ (⟨2, 1, 1, 0⟩ : S87) [.int .i64 2, .int .i64 1, .int .i64 1, .int .i64 0] from (k87_mkM _ _ _ (⟨2, 1, 1, 0⟩ : S87) )) (Reps.c4 (show Kd.M k87 _ _ _ (⟨3, 3, 3, 0⟩ : S87) [.int .i64 3, .int .i64 3, .int .i64 3, .int .i64 0] from (k87_mkM _ _ _ (⟨3, 3, 3, 0⟩ : S87) )) (Reps.c4 (show Kd.M k87 _ _ _ (⟨4, 5, 11, 0⟩ : S87) [.int .i64 4, .int .i64 5, .int .i64 11, .int .i64 0] from (k87_mkM _ _ _ (⟨4, 5, 11, 0⟩ : S87) )) (Reps.c4 (show Kd.M k87 _ _ _ (⟨5, 8, 43, 0⟩ : S87) [.int .i64 5, .int .i64 8, .int .i64 43, .int .i64 0] from (k87_mkM _ _ _ (⟨5, 8, 43, 0⟩ : S87) )) (Reps.c4 (show Kd.M k87 _ _ _ (⟨5, 20, 299, 0⟩ : S87) [.int .i64 5, .int .i64 20, .int .i64 299, .int .i64 0] from (k87_mkM _ _ _ (⟨5, 20, 299, 0⟩ : S87) )) (Reps.none _ _)))))))); intro v310 w3 ho4 hb hg_ hnew_; clear hg_ hnew_; (first | rw [← Ny309.out] at ho4 | (simp only [Int.reduceToNat] at ho4; rw [← Ny309.out] at ho4)); have n_ := aC (Kd.R_lower ho4 bz) (aE (bs hb)); clear HB; obtain ⟨HO311, HB⟩ := n_; clear hb ho4))
  go_ret
  exact ⟨_, re, rU HO311.out, bl⟩
 ·rw [if_neg c2] at H
  have c2b0 := beq_eq_false_iff_ne.mpr c2
  have c2b1 := bne_iff_ne.mpr c2
  by_cases c5 : a0 = 1
  ·rw [if_pos c5] at H
   have c5b0 := beq_iff_eq.mpr c5
   have c5b1 := bne_eq_false_iff_eq.mpr c5
   clear c5
   obtain ⟨y312, hy_⟩ : ∃ y_ : List (S87), y_ = (([(⟨1, 2, 0, 0⟩ : S87), (⟨2, 4, 4, 0⟩ : S87), (⟨3, 8, 20, 0⟩ : S87), (⟨4, 20, (-1), 1⟩ : S87), (⟨4, 0, 0, 2⟩ : S87)] : List (S87))) := ⟨_, rfl⟩
   replace H : (some y312) = some r := rh
   have Ny312 := aE hy_
   clear hy_
   obtain rfl := Option.some.inj H
   go_enter Tryd.func38, Tryd.ntmps38
   go_wp2_with (first | ((with_reducible refine gd 20 rfl ?_); refine Kd.R_lit k87 _ 87 ?hg (N := 20) ?hd (xs := ([(⟨1, 2, 0, 0⟩ : S87), (⟨2, 4, 4, 0⟩ : S87), (⟨3, 8, 20, 0⟩ : S87), (⟨4, 20, (-1), 1⟩ : S87), (⟨4, 0, 0, 2⟩ : S87)] : List (S87))) (inner := [.int .i64 1, .int .i64 2, .int .i64 0, .int .i64 0, .int .i64 2, .int .i64 4, .int .i64 4, .int .i64 0, .int .i64 3, .int .i64 8, .int .i64 20, .int .i64 0, .int .i64 4, .int .i64 20, .int .i64 (-1), .int .i64 1, .int .i64 4, .int .i64 0, .int .i64 0, .int .i64 2]) (ok := fun _ => True) (okp := fun _ => True) ?hr ?hp (fun _ hk => hk) trivial (Below.refl _ _) (Nat.le_refl _) (by simp) ?_; (case hd => rfl); (case hg => rfl); (case hr => first | (go_simp; done) | (go_simp; rfl)); (case hp => exact (Reps.c4 (show Kd.M k87 _ _ _ (⟨1, 2, 0, 0⟩ : S87) [.int .i64 1, .int .i64 2, .int .i64 0, .int .i64 0] from (k87_mkM _ _ _ (⟨1, 2, 0, 0⟩ : S87) )) (Reps.c4 (show Kd.M k87 _ _ _ (⟨2, 4, 4, 0⟩ : S87) [.int .i64 2, .int .i64 4, .int .i64 4, .int .i64 0] from (k87_mkM _ _ _ (⟨2, 4, 4, 0⟩ : S87) )) (Reps.c4 (show Kd.M k87 _ _ _ (⟨3, 8, 20, 0⟩ : S87) [.int .i64 3, .int .i64 8, .int .i64 20, .int .i64 0] from (k87_mkM _ _ _ (⟨3, 8, 20, 0⟩ : S87) )) (Reps.c4 (show Kd.M k87 _ _ _ (⟨4, 20, (-1), 1⟩ : S87) [.int .i64 4, .int .i64 20, .int .i64 (-1), .int .i64 1] from (k87_mkM _ _ _ (⟨4, 20, (-1), 1⟩ : S87) )) (Reps.c4 (show Kd.M k87 _ _ _ (⟨4, 0, 0, 2⟩ : S87) [.int .i64 4, .int .i64 0, .int .i64 0, .int .i64 2] from (k87_mkM _ _ _ (⟨4, 0, 0, 2⟩ : S87) )) (Reps.none _ _))))))); intro v313 w6 ho7 hb hg_ hnew_; clear hg_ hnew_; (first | rw [← Ny312.out] at ho7 | (simp only [Int.reduceToNat] at ho7; rw [← Ny312.out] at ho7)); have n_ := aC (Kd.R_lower ho7 bz) (aE (bs hb)); clear HB; obtain ⟨HO314, HB⟩ := n_; clear hb ho7))
   go_ret
   exact ⟨_, re, rU HO314.out, bl⟩
  ·rw [if_neg c5] at H
   have c5b0 := beq_eq_false_iff_ne.mpr c5
   have c5b1 := bne_iff_ne.mpr c5
   by_cases c8 : a0 = 2
   ·rw [if_pos c8] at H
    have c8b0 := beq_iff_eq.mpr c8
    have c8b1 := bne_eq_false_iff_eq.mpr c8
    clear c8
    obtain ⟨y315, hy_⟩ : ∃ y_ : List (S87), y_ = (([(⟨1, 0, 0, 0⟩ : S87), (⟨3, 2, 1, 0⟩ : S87), (⟨3, 2, (-1), 1⟩ : S87), (⟨3, 20, 5, 0⟩ : S87), (⟨3, 20, (-5), 1⟩ : S87)] : List (S87))) := ⟨_, rfl⟩
    replace H : (some y315) = some r := rh
    have Ny315 := aE hy_
    clear hy_
    obtain rfl := Option.some.inj H
    go_enter Tryd.func38, Tryd.ntmps38
    go_wp2_with (first | ((with_reducible refine gd 28 rfl ?_); refine Kd.R_lit k87 _ 87 ?hg (N := 28) ?hd (xs := ([(⟨1, 0, 0, 0⟩ : S87), (⟨3, 2, 1, 0⟩ : S87), (⟨3, 2, (-1), 1⟩ : S87), (⟨3, 20, 5, 0⟩ : S87), (⟨3, 20, (-5), 1⟩ : S87)] : List (S87))) (inner := [.int .i64 1, .int .i64 0, .int .i64 0, .int .i64 0, .int .i64 3, .int .i64 2, .int .i64 1, .int .i64 0, .int .i64 3, .int .i64 2, .int .i64 (-1), .int .i64 1, .int .i64 3, .int .i64 20, .int .i64 5, .int .i64 0, .int .i64 3, .int .i64 20, .int .i64 (-5), .int .i64 1]) (ok := fun _ => True) (okp := fun _ => True) ?hr ?hp (fun _ hk => hk) trivial (Below.refl _ _) (Nat.le_refl _) (by simp) ?_; (case hd => rfl); (case hg => rfl); (case hr => first | (go_simp; done) | (go_simp; rfl)); (case hp => exact (Reps.c4 (show Kd.M k87 _ _ _ (⟨1, 0, 0, 0⟩ : S87) [.int .i64 1, .int .i64 0, .int .i64 0, .int .i64 0] from (k87_mkM _ _ _ (⟨1, 0, 0, 0⟩ : S87) )) (Reps.c4 (show Kd.M k87 _ _ _ (⟨3, 2, 1, 0⟩ : S87) [.int .i64 3, .int .i64 2, .int .i64 1, .int .i64 0] from (k87_mkM _ _ _ (⟨3, 2, 1, 0⟩ : S87) )) (Reps.c4 (show Kd.M k87 _ _ _ (⟨3, 2, (-1), 1⟩ : S87) [.int .i64 3, .int .i64 2, .int .i64 (-1), .int .i64 1] from (k87_mkM _ _ _ (⟨3, 2, (-1), 1⟩ : S87) )) (Reps.c4 (show Kd.M k87 _ _ _ (⟨3, 20, 5, 0⟩ : S87) [.int .i64 3, .int .i64 20, .int .i64 5, .int .i64 0] from (k87_mkM _ _ _ (⟨3, 20, 5, 0⟩ : S87) )) (Reps.c4 (show Kd.M k87 _ _ _ (⟨3, 20, (-5), 1⟩ : S87) [.int .i64 3, .int .i64 20, .int .i64 (-5), .int .i64 1] from (k87_mkM _ _ _ (⟨3, 20, (-5), 1⟩ : S87) )) (Reps.none _ _))))))); intro v316 w9 ho10 hb hg_ hnew_; clear hg_ hnew_; (first | rw [← Ny315.out] at ho10 | (simp only [Int.reduceToNat] at ho10; rw [← Ny315.out] at ho10)); have n_ := aC (Kd.R_lower ho10 bz) (aE (bs hb)); clear HB; obtain ⟨HO317, HB⟩ := n_; clear hb ho10))
    go_ret
    exact ⟨_, re, rU HO317.out, bl⟩
   ·rw [if_neg c8] at H
    have c8b0 := beq_eq_false_iff_ne.mpr c8
    have c8b1 := bne_iff_ne.mpr c8
    obtain rfl := Option.some.inj H
    go_enter Tryd.func38, Tryd.ntmps38
    go_wp2
    go_ret
    exact ⟨_, re, by first | exact Kd.R_nil _ _ _ _ _ | exact Kd.N_nil _ _ _ _ _ | exact Kd.V_nil _ _ _ _ _ | exact Kd.Q_nil _ _ _ _ _ | exact Kd.S_nil _ _ _ _ _, bl⟩

/-! ### incunableref06_table: function 39 -/
def incunableref06_table.f (a0 : Int) : Option ((List (S87))) := if a0 = 0 then (some (([(⟨2, 2, 0, 0⟩ : S87), (⟨2, 3, 4, 0⟩ : S87), (⟨2, 4, 12, 0⟩ : S87), (⟨2, 6, 28, 0⟩ : S87)] : List (S87)))) else (some (([(⟨1, 1, 0, 0⟩ : S87), (⟨2, 1, 2, 0⟩ : S87), (⟨3, 2, 4, 0⟩ : S87), (⟨3, 6, 8, 0⟩ : S87)] : List (S87))))
set_option maxHeartbeats 8000000 in
set_option maxRecDepth 100000 in
theorem incunableref06_table.calls (a0 : Int) (r : List (S87)) (w : World) (h : incunableref06_table.f a0 = some r) :
  Calls Tryd.prog 39 #[.int .i64 a0] w fun e w' => ∃ v0_ : Value, e = .returned (v0_) ∧ Kd.R k87 87 w' w.heap.size (fun _ => True) v0_ r ∧ Below w.heap.size w w' := by
 have hu87 := Tryd.underlying87
 have HB := Aside0.mk (Below.refl w.heap.size w)
 have H : (if a0 = 0 then (some (([(⟨2, 2, 0, 0⟩ : S87), (⟨2, 3, 4, 0⟩ : S87), (⟨2, 4, 12, 0⟩ : S87), (⟨2, 6, 28, 0⟩ : S87)] : List (S87)))) else (some (([(⟨1, 1, 0, 0⟩ : S87), (⟨2, 1, 2, 0⟩ : S87), (⟨3, 2, 4, 0⟩ : S87), (⟨3, 6, 8, 0⟩ : S87)] : List (S87))))) = some r := h
 clear h
 by_cases c2 : a0 = 0
 ·rw [if_pos c2] at H
  have c2b0 := beq_iff_eq.mpr c2
  have c2b1 := bne_eq_false_iff_eq.mpr c2
  clear c2
  obtain ⟨y318, hy_⟩ : ∃ y_ : List (S87), y_ = (([(⟨2, 2, 0, 0⟩ : S87), (⟨2, 3, 4, 0⟩ : S87), (⟨2, 4, 12, 0⟩ : S87), (⟨2, 6, 28, 0⟩ : S87)] : List (S87))) := ⟨_, rfl⟩
  replace H : (some y318) = some r := rh
  have Ny318 := aE hy_
  clear hy_
  obtain rfl := Option.some.inj H
  go_enter Tryd.func39, Tryd.ntmps39
  go_wp2_with (first | ((with_reducible refine gd 9 rfl ?_); refine Kd.R_lit k87 _ 87 ?hg (N := 9) ?hd (xs := ([(⟨2, 2, 0, 0⟩ : S87), (⟨2, 3, 4, 0⟩ : S87), (⟨2, 4, 12, 0⟩ : S87), (⟨2, 6, 28, 0⟩ : S87)] : List (S87))) (inner := [.int .i64 2, .int .i64 2, .int .i64 0, .int .i64 0, .int .i64 2, .int .i64 3, .int .i64 4, .int .i64 0, .int .i64 2, .int .i64 4, .int .i64 12, .int .i64 0, .int .i64 2, .int .i64 6, .int .i64 28, .int .i64 0]) (ok := fun _ => True) (okp := fun _ => True) ?hr ?hp (fun _ hk => hk) trivial (Below.refl _ _) (Nat.le_refl _) (by simp) ?_; (case hd => rfl); (case hg => rfl); (case hr => first | (go_simp; done) | (go_simp; rfl)); (case hp => exact (Reps.c4 (show Kd.M k87 _ _ _ (⟨2, 2, 0, 0⟩ : S87) [.int .i64 2, .int .i64 2, .int .i64 0, .int .i64 0] from (k87_mkM _ _ _ (⟨2, 2, 0, 0⟩ : S87) )) (Reps.c4 (show Kd.M k87 _ _ _ (⟨2, 3, 4, 0⟩ : S87) [.int .i64 2, .int .i64 3, .int .i64 4, .int .i64 0] from (k87_mkM _ _ _ (⟨2, 3, 4, 0⟩ : S87) )) (Reps.c4 (show Kd.M k87 _ _ _ (⟨2, 4, 12, 0⟩ : S87) [.int .i64 2, .int .i64 4, .int .i64 12, .int .i64 0] from (k87_mkM _ _ _ (⟨2, 4, 12, 0⟩ : S87) )) (Reps.c4 (show Kd.M k87 _ _ _ (⟨2, 6, 28, 0⟩ : S87) [.int .i64 2, .int .i64 6, .int .i64 28, .int .i64 0] from (k87_mkM _ _ _ (⟨2, 6, 28, 0⟩ : S87) )) (Reps.none _ _)))))); intro v319 w3 ho4 hb hg_ hnew_; clear hg_ hnew_; (first | rw [← Ny318.out] at ho4 | (simp only [Int.reduceToNat] at ho4; rw [← Ny318.out] at ho4)); have n_ := aC (Kd.R_lower ho4 bz) (aE (bs hb)); clear HB; obtain ⟨HO320, HB⟩ := n_; clear hb ho4))
  go_ret
  exact ⟨_, re, rU HO320.out, bl⟩
 ·rw [if_neg c2] at H
  have c2b0 := beq_eq_false_iff_ne.mpr c2
  have c2b1 := bne_iff_ne.mpr c2
  obtain ⟨y321, hy_⟩ : ∃ y_ : List (S87), y_ = (([(⟨1, 1, 0, 0⟩ : S87), (⟨2, 1, 2, 0⟩ : S87), (⟨3, 2, 4, 0⟩ : S87), (⟨3, 6, 8, 0⟩ : S87)] : List (S87))) := ⟨_, rfl⟩
  replace H : (some y321) = some r := rh
  have Ny321 := aE hy_
  clear hy_
  obtain rfl := Option.some.inj H
  go_enter Tryd.func39, Tryd.ntmps39
  go_wp2_with (first | ((with_reducible refine gd 14 rfl ?_); refine Kd.R_lit k87 _ 87 ?hg (N := 14) ?hd (xs := ([(⟨1, 1, 0, 0⟩ : S87), (⟨2, 1, 2, 0⟩ : S87), (⟨3, 2, 4, 0⟩ : S87), (⟨3, 6, 8, 0⟩ : S87)] : List (S87))) (inner := [.int .i64 1, .int .i64 1, .int .i64 0, .int .i64 0, .int .i64 2, .int .i64 1, .int .i64 2, .int .i64 0, .int .i64 3, .int .i64 2, .int .i64 4, .int .i64 0, .int .i64 3, .int .i64 6, .int .i64 8, .int .i64 0]) (ok := fun _ => True) (okp := fun _ => True) ?hr ?hp (fun _ hk => hk) trivial (Below.refl _ _) (Nat.le_refl _) (by simp) ?_; (case hd => rfl); (case hg => rfl); (case hr => first | (go_simp; done) | (go_simp; rfl)); (case hp => exact (Reps.c4 (show Kd.M k87 _ _ _ (⟨1, 1, 0, 0⟩ : S87) [.int .i64 1, .int .i64 1, .int .i64 0, .int .i64 0] from (k87_mkM _ _ _ (⟨1, 1, 0, 0⟩ : S87) )) (Reps.c4 (show Kd.M k87 _ _ _ (⟨2, 1, 2, 0⟩ : S87) [.int .i64 2, .int .i64 1, .int .i64 2, .int .i64 0] from (k87_mkM _ _ _ (⟨2, 1, 2, 0⟩ : S87) )) (Reps.c4 (show Kd.M k87 _ _ _ (⟨3, 2, 4, 0⟩ : S87) [.int .i64 3, .int .i64 2, .int .i64 4, .int .i64 0] from (k87_mkM _ _ _ (⟨3, 2, 4, 0⟩ : S87) )) (Reps.c4 (show Kd.M k87 _ _ _ (⟨3, 6, 8, 0⟩ : S87) [.int .i64 3, .int .i64 6, .int .i64 8, .int .i64 0] from (k87_mkM _ _ _ (⟨3, 6, 8, 0⟩ : S87) )) (Reps.none _ _)))))); intro v322 w5 ho6 hb hg_ hnew_; clear hg_ hnew_; (first | rw [← Ny321.out] at ho6 | (simp only [Int.reduceToNat] at ho6; rw [← Ny321.out] at ho6)); have n_ := aC (Kd.R_lower ho6 bz) (aE (bs hb)); clear HB; obtain ⟨HO323, HB⟩ := n_; clear hb ho6))
  go_ret
  exact ⟨_, re, rU HO323.out, bl⟩

/-! ### incunableref06_RunBits: function 15 -/
def incunableref06_RunBits.f (k : Nat) (a0 : Int) (a1 : Int) : Option (List Int) := (incunableref04_Standard.f 0).bind fun t324 => ((incunableref04_Bits.f k t324 false (wrap64 (Int.tdiv a0 64))).bind fun bt327 => ((incunableref06_table.f a1).bind fun t331 => ((incunableref04_Bits.f k t331 false (Int.tmod a0 64)).bind fun bt334 => ((some (([] : List Int) : List Int)).bind fun y338 => (if y338.length + bt327.1.length < 140737488355328 then ((some (y338 ++ bt327.1 : List Int)).bind fun y341 => (if y341.length + bt334.1.length < 140737488355328 then (some (y341 ++ bt334.1)) else (none))) else (none))))))
theorem incunableref06_RunBits.mono : ∀ a0 a1 k, LeO (incunableref06_RunBits.f k a0 a1) (incunableref06_RunBits.f (k + 1) a0 a1) := by
 intro a0 a1 k
 unfold incunableref06_RunBits.f
 repeat' first
   | (with_reducible exact incunableref04_Bits.mono _ _ _ _)
   | (with_reducible first | exact LeO.refl _ | exact LeO.none _ | refine LeO.ite ?_ ?_ | refine LeO.bind ?_ (fun _ => ?_))
   | exact incunableref04_Bits.mono _ _ _ _
   | exact LeO.none _ | refine LeO.ite ?_ ?_ | refine LeO.bind ?_ (fun _ => ?_)
set_option maxHeartbeats 8000000 in
set_option maxRecDepth 100000 in
theorem incunableref06_RunBits.calls (k : Nat) (a0 : Int) (a1 : Int) (r : List Int) (w : World) (h : incunableref06_RunBits.f k a0 a1 = some r) :
  Calls Tryd.prog 15 #[.int .i64 a0, .int .i64 a1] w fun e w' => ∃ v0_ : Value, e = .returned (v0_) ∧ Kd.R (Kd.int .u8) 5 w' w.heap.size (fun _ => True) v0_ r ∧ Below w.heap.size w w' := by
 have hu64 := Tryd.underlying64
 have HB := Aside0.mk (Below.refl w.heap.size w)
 have H : ((incunableref04_Standard.f 0).bind fun t324 => ((incunableref04_Bits.f k t324 false (wrap64 (Int.tdiv a0 64))).bind fun bt327 => ((incunableref06_table.f a1).bind fun t331 => ((incunableref04_Bits.f k t331 false (Int.tmod a0 64)).bind fun bt334 => ((some (([] : List Int) : List Int)).bind fun y338 => (if y338.length + bt327.1.length < 140737488355328 then ((some (y338 ++ bt327.1 : List Int)).bind fun y341 => (if y341.length + bt334.1.length < 140737488355328 then (some (y341 ++ bt334.1)) else (none))) else (none))))))) = some r := h
 clear h
 replace H := Option.bind_eq_some_iff.mp H
 obtain ⟨t324, A30, H⟩ := H
 replace H : ((incunableref04_Bits.f k t324 false (wrap64 (Int.tdiv a0 64))).bind fun bt327 => ((incunableref06_table.f a1).bind fun t331 => ((incunableref04_Bits.f k t331 false (Int.tmod a0 64)).bind fun bt334 => ((some (([] : List Int) : List Int)).bind fun y338 => (if y338.length + bt327.1.length < 140737488355328 then ((some (y338 ++ bt327.1 : List Int)).bind fun y341 => (if y341.length + bt334.1.length < 140737488355328 then (some (y341 ++ bt334.1)) else (none))) else (none)))))) = some r := H
 have A3 := Aside0.mk A30
 clear A30
 replace H := Option.bind_eq_some_iff.mp H
 obtain ⟨⟨t327, t330⟩, A40, H⟩ := H
 replace H : ((incunableref06_table.f a1).bind fun t331 => ((incunableref04_Bits.f k t331 false (Int.tmod a0 64)).bind fun bt334 => ((some (([] : List Int) : List Int)).bind fun y338 => (if y338.length + t327.length < 140737488355328 then ((some (y338 ++ t327 : List Int)).bind fun y341 => (if y341.length + bt334.1.length < 140737488355328 then (some (y341 ++ bt334.1)) else (none))) else (none))))) = some r := H
 have A4 := Aside0.mk A40
 clear A40
 replace H := Option.bind_eq_some_iff.mp H
 obtain ⟨t331, A50, H⟩ := H
 replace H : ((incunableref04_Bits.f k t331 false (Int.tmod a0 64)).bind fun bt334 => ((some (([] : List Int) : List Int)).bind fun y338 => (if y338.length + t327.length < 140737488355328 then ((some (y338 ++ t327 : List Int)).bind fun y341 => (if y341.length + bt334.1.length < 140737488355328 then (some (y341 ++ bt334.1)) else (none))) else (none)))) = some r := H
 have A5 := Aside0.mk A50
 clear A50
 replace H := Option.bind_eq_some_iff.mp H
 obtain ⟨⟨t334, t337⟩, A60, H⟩ := H
 replace H : ((some (([] : List Int) : List Int)).bind fun y338 => (if y338.length + t327.length < 140737488355328 then ((some (y338 ++ t327 : List Int)).bind fun y341 => (if y341.length + t334.length < 140737488355328 then (some (y341 ++ t334)) else (none))) else (none))) = some r := H
 have A6 := Aside0.mk A60
 clear A60
 obtain ⟨y338, hy_⟩ : ∃ y_ : List Int, y_ = (([] : List Int)) := ⟨_, rfl⟩
 replace H : (if y338.length + t327.length < 140737488355328 then ((some (y338 ++ t327 : List Int)).bind fun y341 => (if y341.length + t334.length < 140737488355328 then (some (y341 ++ t334)) else (none))) else (none)) = some r := rh
 have Ny338 := aE hy_
 clear hy_
 by_cases c7 : y338.length + t327.length < 140737488355328
 ·rw [if_pos c7] at H
  have LMc7 := Aside0.mk c7
  clear c7
  obtain ⟨y341, hy_⟩ : ∃ y_ : List Int, y_ = (y338 ++ t327) := ⟨_, rfl⟩
  replace H : (if y341.length + t334.length < 140737488355328 then (some (y341 ++ t334)) else (none)) = some r := rh
  have Ny341 := aE hy_
  clear hy_
  by_cases c8 : y341.length + t334.length < 140737488355328
  ·rw [if_pos c8] at H
   have LMc8 := Aside0.mk c8
   clear c8
   obtain ⟨y344, hy_⟩ : ∃ y_ : List Int, y_ = (y341 ++ t334) := ⟨_, rfl⟩
   replace H : (some y344) = some r := rh
   have Ny344 := aE hy_
   clear hy_
   obtain rfl := Option.some.inj H
   go_enter Tryd.func15, Tryd.ntmps15
   go_wp2_with (first | ((with_reducible refine gf 38 rfl ?_); refine gL (some 10) rfl rfl Tryd.func38 rfl #[.int .i64 0] rfl ?_; (with_reducible refine (incunableref04_Standard.calls 0 t324 _ A3.out).mono ?_); rintro e w9 ⟨v325, rfl, ho0, hb⟩; refine ⟨_, rfl, ?_⟩; have n_ := aC (Kd.R_lower ho0 bz) (aE (bs hb)); clear HB; obtain ⟨HO326, HB⟩ := n_; (try clear hb); (try clear ho0); obtain ⟨Ao10, co10, eo10⟩ := Kd.R_slice HO326.out; subst eo10) | ((with_reducible refine gf 37 rfl ?_); refine gL (some 14) rfl rfl Tryd.func37 rfl #[.slice Ao10 t324.length co10, .agg #[.bool false, .int .i64 (wrap64 (Int.tdiv a0 64))]] rfl ?_; (with_reducible refine (incunableref04_Bits.calls k _ _ t324 false (wrap64 (Int.tdiv a0 64)) t327 t330 _ ?side1 ?side2 A4.out).mono ?_); (case side1 => exact cU (Kd.R_reads' HO326.out).2.2); (case side2 => exact (Kd.R_reads' HO326.out).2.1); rintro e w11 ⟨v328, rfl, ho0, hb⟩; refine ⟨_, rfl, ?_⟩; have n_ := aC (Kd.R_below (rU HO326.out) hb) (aC (Kd.R_lower ho0 bz) (aE (bs hb))); clear HO326 HB; obtain ⟨HO326, HO329, HB⟩ := n_; (try clear hb); (try clear ho0)) | ((with_reducible refine gf 39 rfl ?_); refine gL (some 19) rfl rfl Tryd.func39 rfl #[.int .i64 a1] rfl ?_; (with_reducible refine (incunableref06_table.calls a1 t331 _ A5.out).mono ?_); rintro e w12 ⟨v332, rfl, ho0, hb⟩; refine ⟨_, rfl, ?_⟩; have n_ := aC (Kd.R_elder' (rU HO326.out) (Kd.R_base ho0) hb) (aC (Kd.R_below (rU HO329.out) hb) (aC (Kd.R_lower (Kd.R_new' ho0 (Kd.R_lt (rU HO326.out))) bz) (aE (bs hb)))); clear HO326 HO329 HB; obtain ⟨HO326, HO329, HO333, HB⟩ := n_; (try clear hb); (try clear ho0); obtain ⟨Ao13, co13, eo13⟩ := Kd.R_slice HO333.out; subst eo13) | ((with_reducible refine gf 37 rfl ?_); refine gL (some 23) rfl rfl Tryd.func37 rfl #[.slice Ao13 t331.length co13, .agg #[.bool false, .int .i64 (Int.tmod a0 64)]] rfl ?_; (with_reducible refine (incunableref04_Bits.calls k _ _ t331 false (Int.tmod a0 64) t334 t337 _ ?side1 ?side2 A6.out).mono ?_); (case side1 => exact cU (Kd.R_reads' HO333.out).2.2); (case side2 => exact (Kd.R_reads' HO333.out).2.1); rintro e w14 ⟨v335, rfl, ho0, hb⟩; refine ⟨_, rfl, ?_⟩; have n_ := aC (Kd.R_below (rU HO326.out) hb) (aC (Kd.R_elder' (rU HO329.out) (Kd.R_base ho0) hb) (aC (Kd.R_below (rU HO333.out) hb) (aC (Kd.R_lower (Kd.R_new' ho0 (Kd.R_lt (rU HO329.out))) bz) (aE (bs hb))))); clear HO326 HO329 HO333 HB; obtain ⟨HO326, HO329, HO333, HO336, HB⟩ := n_; (try clear hb); (try clear ho0)) | ((with_reducible refine gd 26 rfl ?_); refine Kd.R_lit (Kd.int .u8) _ 5 ?hg (N := 26) ?hd (xs := ([] : List Int)) (inner := []) (ok := fun _ => True) (okp := fun _ => True) ?hr ?hp (fun _ hk => hk) trivial (Below.refl _ _) (Nat.le_refl _) (by simp) ?_; (case hd => rfl); (case hg => rfl); (case hr => first | (go_simp; done) | (go_simp; rfl)); (case hp => exact (Reps.none _ _)); intro v339 w15 ho16 hb hg_ hnew_; clear hg_ hnew_; (first | rw [← Ny338.out] at ho16 | (simp only [Int.reduceToNat] at ho16; rw [← Ny338.out] at ho16)); have n_ := aC (Kd.R_below (rU HO326.out) hb) (aC (Kd.R_elder' (rU HO329.out) (Kd.R_base ho16) hb) (aC (Kd.R_below (rU HO333.out) hb) (aC (Kd.R_elder' (rU HO336.out) (Kd.R_base ho16) hb) (aC (Kd.R_lower (Kd.R_new' (Kd.R_new' ho16 (Kd.R_lt (rU HO329.out))) (Kd.R_lt (rU HO336.out))) bz) (aE (bs hb)))))); clear HO326 HO329 HO333 HO336 HB; obtain ⟨HO326, HO329, HO333, HO336, HO340, HB⟩ := n_; clear hb ho16; obtain ⟨Ao18, co18, eo18⟩ := Kd.R_slice HO329.out; subst eo18) | ((with_reducible refine gate_builtin (b := .append) (xs := #[.tmp 26, .tmp 27]) rfl ?_); at_builtin; refine Kd.R_append_rows (Kd.int .u8) (w0 := w) w.heap.size rfl (.tmp 26) (.tmp 27) 22 5 (.int .u8 0) 1 rfl Tryd.underlying22 info5 rfl (by decide) (by omega) v339 y338 t327 _ _ _ (fun k_ => some k_ ≠ (.slice Ao18 t327.length co18 : Value).ownBlock ∧ some k_ ≠ (v335 : Value).ownBlock) (fun _ => False) rfl rfl ?aO ?aR (fun _ _ h => h) (fun _ h => h.elim) ?aF ?aB ?aS ?aL ?_; (case aR => repeat (first | exact (Kd.R_reads' HO329.out).2.2 | (with_reducible refine Kd.C_alloc ?_ _) | (with_reducible refine Kd.C_drewN ?_ _) | (with_reducible refine Kd.C_drew ?_))); (case aB => exact bl); (case aF => exact (fun k_ hk => ⟨Kd.fresh' (Kd.R_lt (rU HO329.out)) k_ hk, Kd.fresh' (Kd.R_lt (rU HO336.out)) k_ hk⟩)); (case aO => exact (rU (Kd.R_mono HO340.out (fun _ hk => ⟨hk.1.2, hk.2⟩)))); (case aS => exact bz); (case aL => have := LMc7.out; omega); intro v342 w17 ho hb hg hat; rw [← Ny341.out] at ho; have n_ := aC (Kd.R_over' (rU HO326.out) (Kd.R_typed (rU HO340.out)) (by decide) hg) (aC (Kd.R_after (ok := (fun k_ => some k_ ≠ (v335 : Value).ownBlock)) (rU (Kd.R_mono HO329.out (fun _ hk => ⟨hk.1.2, hk.2⟩))) hg hat) (aC (Kd.R_over' (rU HO333.out) (Kd.R_typed (rU HO340.out)) (by decide) hg) (aC (Kd.R_after (ok := (fun k_ => some k_ ≠ (.slice Ao18 t327.length co18 : Value).ownBlock)) (rU (Kd.R_mono HO336.out (fun _ hk => ⟨hk.1.2, hk.2⟩))) hg hat) (aC hb (aE ho))))); clear HO326 HO329 HO333 HO336 HB HO340; obtain ⟨HO326, HO329, HO333, HO336, HB, HO343⟩ := n_; clear ho hb hg hat; obtain ⟨Ao20, co20, eo20⟩ := Kd.R_slice HO336.out; subst eo20) | ((with_reducible refine gate_builtin (b := .append) (xs := #[.tmp 28, .tmp 29]) rfl ?_); at_builtin; refine Kd.R_append_rows (Kd.int .u8) (w0 := w) w.heap.size rfl (.tmp 28) (.tmp 29) 22 5 (.int .u8 0) 1 rfl Tryd.underlying22 info5 rfl (by decide) (by omega) v342 y341 t334 _ _ _ (fun k_ => some k_ ≠ (.slice Ao18 t327.length co18 : Value).ownBlock ∧ some k_ ≠ (.slice Ao20 t334.length co20 : Value).ownBlock) (fun _ => False) rfl rfl ?aO ?aR (fun _ _ h => h) (fun _ h => h.elim) ?aF ?aB ?aS ?aL ?_; (case aR => repeat (first | exact (Kd.R_reads' HO336.out).2.2 | (with_reducible refine Kd.C_alloc ?_ _) | (with_reducible refine Kd.C_drewN ?_ _) | (with_reducible refine Kd.C_drew ?_))); (case aB => exact bl); (case aF => exact (fun k_ hk => ⟨Kd.fresh' (Kd.R_lt (rU HO329.out)) k_ hk, Kd.fresh' (Kd.R_lt (rU HO336.out)) k_ hk⟩)); (case aO => exact (rU HO343.out)); (case aS => exact bz); (case aL => have := LMc8.out; omega); intro v345 w19 ho hb hg hat; rw [← Ny344.out] at ho; have n_ := aC (Kd.R_over' (rU HO326.out) (Kd.R_typed (rU HO343.out)) (by decide) hg) (aC (Kd.R_after (ok := (fun k_ => some k_ ≠ (.slice Ao20 t334.length co20 : Value).ownBlock)) (rU HO329.out) hg hat) (aC (Kd.R_over' (rU HO333.out) (Kd.R_typed (rU HO343.out)) (by decide) hg) (aC (Kd.R_after (ok := (fun k_ => some k_ ≠ (.slice Ao18 t327.length co18 : Value).ownBlock)) (rU HO336.out) hg hat) (aC hb (aE ho))))); clear HO326 HO329 HO333 HO336 HB HO343; obtain ⟨HO326, HO329, HO333, HO336, HB, HO346⟩ := n_; clear ho hb hg hat))
   go_ret
   exact ⟨_, re, rU (Kd.R_mono HO346.out (fun _ hk => trivial)), bl⟩
  ·rw [if_neg c8] at H
   exact absurd H (by simp)
 ·rw [if_neg c7] at H
  exact absurd H (by simp)

/-! ### incunableref06_at: function 91 -/
def incunableref06_at.f (l0 : List Int) (a1 : Int) : Option (Int) := if a1 < 0 then (some 0) else (if 0 ≤ a1 then (if a1 < (l0.length : Int) then (some (wrap64 (rd l0 a1))) else (none)) else (none))
set_option maxHeartbeats 8000000 in
set_option maxRecDepth 100000 in
theorem incunableref06_at.calls (A0 : Option Addr) (c0 : Nat) (l0 : List Int) (a1 : Int) (r : Int) (w : World) (hr0 : Kd.C (Kd.int .u8) w A0 l0.length l0) (hc0 : l0.length ≤ c0) (h : incunableref06_at.f l0 a1 = some r) :
  Calls Tryd.prog 91 #[.slice A0 l0.length c0, .int .i64 a1] w fun e w' => e = .returned (.int .i64 r) ∧ Drawn0 w w' := by
 have HR0 := Aside0.mk hr0
 have HC0 := Aside0.mk hc0
 clear hr0 hc0
 have H : (if a1 < 0 then (some 0) else (if 0 ≤ a1 then (if a1 < (l0.length : Int) then (some (wrap64 (rd l0 a1))) else (none)) else (none))) = some r := h
 clear h
 by_cases c3 : a1 < 0
 ·rw [if_pos c3] at H
  have c3b0 := decide_eq_true c3
  clear c3
  obtain rfl := Option.some.inj H
  go_enter Tryd.func91, Tryd.ntmps91
  go_wp2
  go_ret
  exact ⟨by first | rfl | (simp; done) | (simp [*]; done), by repeat (first | exact Drawn0.refl _ | apply Drawn0.step)⟩
 ·rw [if_neg c3] at H
  have c3b0 := decide_eq_false c3
  clear c3
  by_cases c4 : 0 ≤ a1
  ·rw [if_pos c4] at H
   have c4b0 := decide_eq_true c4
   clear c4
   by_cases c5 : a1 < (l0.length : Int)
   ·rw [if_pos c5] at H
    have c5b0 := decide_eq_true c5
    clear c5
    obtain rfl := Option.some.inj H
    have p347 : 0 ≤ (a1 : Int) := dt
    have q347 : a1 < (l0.length : Int) := dt
    obtain ⟨ad347, e347, hx347_0⟩ := Kd.at_int HR0.out a1 p347 q347
    cases e347
    replace p347 := eq_true p347
    replace q347 := eq_true q347
    go_enter Tryd.func91, Tryd.ntmps91
    go_wp2
    go_ret
    exact ⟨by first | rfl | (simp; done) | (simp [*]; done), by repeat (first | exact Drawn0.refl _ | apply Drawn0.step)⟩
   ·rw [if_neg c5] at H
    exact absurd H (by simp)
  ·rw [if_neg c4] at H
   exact absurd H (by simp)

/-! ### incunableref06_change: function 69 -/
def incunableref06_change.l0 : Nat → List Int → Int → Int → Option (Int)
 | 0, _, _, _ => none
 | k + 1, x0, x2, x7 => if x7 < (x0.length : Int) then ((incunableref06_at.f x0 x7).bind fun t348 => (if t348 = x2 then (incunableref06_change.l0 k x0 x2 (wrap64 (x7 + 1))) else ((incunableref06_at.f x0 (wrap64 (x7 - 1))).bind fun t349 => (if t349 = x2 then (some x7) else (incunableref06_change.l0 k x0 x2 (wrap64 (x7 + 1))))))) else (some (x0.length : Int))
def incunableref06_change.f (k : Nat) (l0 : List Int) (a1 : Int) (a2 : Int) : Option (Int) := incunableref06_change.l0 k l0 a2 (wrap64 (a1 + 1))
theorem incunableref06_change.mono_l : ∀ k, (∀ y0 y1 y2, LeO (incunableref06_change.l0 k y0 y1 y2) (incunableref06_change.l0 (k + 1) y0 y1 y2))
 | 0 => fun _ _ _ r h => by simp [incunableref06_change.l0] at h
 | k + 1 => by
  have ih0 := incunableref06_change.mono_l k
  ·intro y0 y1 y2
   unfold incunableref06_change.l0
   repeat' first
   | (with_reducible exact ih0 _ _ _)
   | (with_reducible first | exact LeO.refl _ | exact LeO.none _ | refine LeO.ite ?_ ?_ | refine LeO.bind ?_ (fun _ => ?_))
   | exact ih0 _ _ _
   | exact LeO.none _ | refine LeO.ite ?_ ?_ | refine LeO.bind ?_ (fun _ => ?_)
theorem incunableref06_change.mono : ∀ a0 a1 a2 k, LeO (incunableref06_change.f k a0 a1 a2) (incunableref06_change.f (k + 1) a0 a1 a2) := by
 intro a0 a1 a2 k
 have ih0 := incunableref06_change.mono_l k
 unfold incunableref06_change.f
 repeat' first
   | (with_reducible exact ih0 _ _ _)
   | (with_reducible first | exact LeO.refl _ | exact LeO.none _ | refine LeO.ite ?_ ?_ | refine LeO.bind ?_ (fun _ => ?_))
   | exact ih0 _ _ _
   | exact LeO.none _ | refine LeO.ite ?_ ?_ | refine LeO.bind ?_ (fun _ => ?_)
set_option maxHeartbeats 8000000 in
set_option maxRecDepth 100000 in
theorem incunableref06_change.calls (k : Nat) (A0 : Option Addr) (c0 : Nat) (l0 : List Int) (a1 : Int) (a2 : Int) (r : Int) (w : World) (hr0 : Kd.C (Kd.int .u8) w A0 l0.length l0) (hc0 : l0.length ≤ c0) (h : incunableref06_change.f k l0 a1 a2 = some r) :
  Calls Tryd.prog 69 #[.slice A0 l0.length c0, .int .i64 a1, .int .i64 a2] w fun e w' => e = .returned (.int .i64 r) ∧ Drawn0 w w' := by
 have HR0 := Aside0.mk hr0
 have HC0 := Aside0.mk hc0
 clear hr0 hc0
 have H : (incunableref06_change.l0 k l0 a2 (wrap64 (a1 + 1))) = some r := h
 clear h
 have H' := Aside0.mk H
 clear H
 go_enter Tryd.func69, Tryd.ntmps69
 go_wp2
 go_loopg [7] k (fun kq v7 w' => ∃ (x7_1 : Int), v7 = .int .i64 x7_1 ∧ Aside0 (incunableref06_change.l0 kq l0 a2 x7_1 = some r) ∧ Aside0 (kq ≤ k) ∧ Drawn0 w w')
 case atStart => exact ⟨(wrap64 (a1 + 1)), rq, H', ⟨Nat.le_refl _⟩, by repeat (first | exact Drawn0.refl _ | apply Drawn0.step)⟩
 case round =>
  clear H'
  obtain ⟨x7_1, rfl, HA, HK1, ⟨m1, rfl⟩⟩ := hrel
  cases gk with
  | zero => exact absurd HA.out (by simp [incunableref06_change.l0])
  | succ k1 =>
   have H := HA.out
   clear HA
   simp only [incunableref06_change.l0] at H
   by_cases c4 : x7_1 < (l0.length : Int)
   ·rw [if_pos c4] at H
    have c4b0 := decide_eq_true c4
    clear c4
    replace H := Option.bind_eq_some_iff.mp H
    obtain ⟨t348, A50, H⟩ := H
    replace H : (if t348 = a2 then (incunableref06_change.l0 k1 l0 a2 (wrap64 (x7_1 + 1))) else ((incunableref06_at.f l0 (wrap64 (x7_1 - 1))).bind fun t349 => (if t349 = a2 then (some x7_1) else (incunableref06_change.l0 k1 l0 a2 (wrap64 (x7_1 + 1)))))) = some r := H
    have A5 := Aside0.mk A50
    clear A50
    by_cases c6 : t348 = a2
    ·rw [if_pos c6] at H
     have c6b0 := beq_iff_eq.mpr c6
     have c6b1 := bne_eq_false_iff_eq.mpr c6
     clear c6
     have H' := Aside0.mk H
     clear H
     go_wp2_with (first | ((with_reducible refine gf 91 rfl ?_); refine gL (some 18) rfl rfl Tryd.func91 rfl #[.slice A0 l0.length c0, .int .i64 x7_1] rfl ?_; (with_reducible refine (incunableref06_at.calls _ _ l0 x7_1 t348 _ ?side1 ?side2 A5.out).mono ?_); (case side1 => exact cU HR0.out); (case side2 => exact HC0.out); rintro e w' ⟨rfl, ⟨nd, rfl⟩⟩; refine ⟨_, rfl, ?_⟩))
     go_roundg k1
     case measure => have := HK1.out; omega
     case rel => exact ⟨(wrap64 (x7_1 + 1)), rq, H', ⟨by have := HK1.out; omega⟩, by repeat (first | exact Drawn0.refl _ | apply Drawn0.step)⟩
    ·rw [if_neg c6] at H
     have c6b0 := beq_eq_false_iff_ne.mpr c6
     have c6b1 := bne_iff_ne.mpr c6
     replace H := Option.bind_eq_some_iff.mp H
     obtain ⟨t349, A70, H⟩ := H
     replace H : (if t349 = a2 then (some x7_1) else (incunableref06_change.l0 k1 l0 a2 (wrap64 (x7_1 + 1)))) = some r := H
     have A7 := Aside0.mk A70
     clear A70
     by_cases c8 : t349 = a2
     ·rw [if_pos c8] at H
      have c8b0 := beq_iff_eq.mpr c8
      have c8b1 := bne_eq_false_iff_eq.mpr c8
      clear c8
      obtain rfl := Option.some.inj H
      go_wp2_with (first | ((with_reducible refine gf 91 rfl ?_); refine gL (some 18) rfl rfl Tryd.func91 rfl #[.slice A0 l0.length c0, .int .i64 x7_1] rfl ?_; (with_reducible refine (incunableref06_at.calls _ _ l0 x7_1 t348 _ ?side1 ?side2 A5.out).mono ?_); (case side1 => exact cU HR0.out); (case side2 => exact HC0.out); rintro e w' ⟨rfl, ⟨nd, rfl⟩⟩; refine ⟨_, rfl, ?_⟩) | (go_at_call 91; (with_reducible refine (incunableref06_at.calls _ _ l0 (wrap64 (x7_1 - 1)) t349 _ ?side1 ?side2 A7.out).mono ?_); (case side1 => exact cU HR0.out); (case side2 => exact HC0.out); rintro e w' ⟨rfl, ⟨nd, rfl⟩⟩))
      go_ret
      exact ⟨by first | rfl | (simp; done) | (simp [*]; done), by repeat (first | exact Drawn0.refl _ | apply Drawn0.step)⟩
     ·rw [if_neg c8] at H
      have c8b0 := beq_eq_false_iff_ne.mpr c8
      have c8b1 := bne_iff_ne.mpr c8
      have H' := Aside0.mk H
      clear H
      go_wp2_with (first | ((with_reducible refine gf 91 rfl ?_); refine gL (some 18) rfl rfl Tryd.func91 rfl #[.slice A0 l0.length c0, .int .i64 x7_1] rfl ?_; (with_reducible refine (incunableref06_at.calls _ _ l0 x7_1 t348 _ ?side1 ?side2 A5.out).mono ?_); (case side1 => exact cU HR0.out); (case side2 => exact HC0.out); rintro e w' ⟨rfl, ⟨nd, rfl⟩⟩; refine ⟨_, rfl, ?_⟩) | (go_at_call 91; (with_reducible refine (incunableref06_at.calls _ _ l0 (wrap64 (x7_1 - 1)) t349 _ ?side1 ?side2 A7.out).mono ?_); (case side1 => exact cU HR0.out); (case side2 => exact HC0.out); rintro e w' ⟨rfl, ⟨nd, rfl⟩⟩))
      go_roundg k1
      case measure => have := HK1.out; omega
      case rel => exact ⟨(wrap64 (x7_1 + 1)), rq, H', ⟨by have := HK1.out; omega⟩, by repeat (first | exact Drawn0.refl _ | apply Drawn0.step)⟩
   ·rw [if_neg c4] at H
    have c4b0 := decide_eq_false c4
    clear c4
    obtain rfl := Option.some.inj H
    go_wp2
    go_ret
    exact ⟨by first | rfl | (simp; done) | (simp [*]; done), by repeat (first | exact Drawn0.refl _ | apply Drawn0.step)⟩

/-! ### incunableref06_first: function 70 -/
def incunableref06_first.l0 : Nat → List Int → Int → Int → Option (Int)
 | 0, _, _, _ => none
 | k + 1, x0, x2, x7 => if x7 < (x0.length : Int) then ((incunableref06_at.f x0 x7).bind fun t350 => (if t350 = x2 then (some x7) else (incunableref06_first.l0 k x0 x2 (wrap64 (x7 + 1))))) else (some (x0.length : Int))
def incunableref06_first.f (k : Nat) (l0 : List Int) (a1 : Int) (a2 : Int) : Option (Int) := incunableref06_first.l0 k l0 a2 (wrap64 (a1 + 1))
theorem incunableref06_first.mono_l : ∀ k, (∀ y0 y1 y2, LeO (incunableref06_first.l0 k y0 y1 y2) (incunableref06_first.l0 (k + 1) y0 y1 y2))
 | 0 => fun _ _ _ r h => by simp [incunableref06_first.l0] at h
 | k + 1 => by
  have ih0 := incunableref06_first.mono_l k
  ·intro y0 y1 y2
   unfold incunableref06_first.l0
   repeat' first
   | (with_reducible exact ih0 _ _ _)
   | (with_reducible first | exact LeO.refl _ | exact LeO.none _ | refine LeO.ite ?_ ?_ | refine LeO.bind ?_ (fun _ => ?_))
   | exact ih0 _ _ _
   | exact LeO.none _ | refine LeO.ite ?_ ?_ | refine LeO.bind ?_ (fun _ => ?_)
theorem incunableref06_first.mono : ∀ a0 a1 a2 k, LeO (incunableref06_first.f k a0 a1 a2) (incunableref06_first.f (k + 1) a0 a1 a2) := by
 intro a0 a1 a2 k
 have ih0 := incunableref06_first.mono_l k
 unfold incunableref06_first.f
 repeat' first
   | (with_reducible exact ih0 _ _ _)
   | (with_reducible first | exact LeO.refl _ | exact LeO.none _ | refine LeO.ite ?_ ?_ | refine LeO.bind ?_ (fun _ => ?_))
   | exact ih0 _ _ _
   | exact LeO.none _ | refine LeO.ite ?_ ?_ | refine LeO.bind ?_ (fun _ => ?_)
set_option maxHeartbeats 8000000 in
set_option maxRecDepth 100000 in
theorem incunableref06_first.calls (k : Nat) (A0 : Option Addr) (c0 : Nat) (l0 : List Int) (a1 : Int) (a2 : Int) (r : Int) (w : World) (hr0 : Kd.C (Kd.int .u8) w A0 l0.length l0) (hc0 : l0.length ≤ c0) (h : incunableref06_first.f k l0 a1 a2 = some r) :
  Calls Tryd.prog 70 #[.slice A0 l0.length c0, .int .i64 a1, .int .i64 a2] w fun e w' => e = .returned (.int .i64 r) ∧ Drawn0 w w' := by
 have HR0 := Aside0.mk hr0
 have HC0 := Aside0.mk hc0
 clear hr0 hc0
 have H : (incunableref06_first.l0 k l0 a2 (wrap64 (a1 + 1))) = some r := h
 clear h
 have H' := Aside0.mk H
 clear H
 go_enter Tryd.func70, Tryd.ntmps70
 go_wp2
 go_loopg [7] k (fun kq v7 w' => ∃ (x7_1 : Int), v7 = .int .i64 x7_1 ∧ Aside0 (incunableref06_first.l0 kq l0 a2 x7_1 = some r) ∧ Aside0 (kq ≤ k) ∧ Drawn0 w w')
 case atStart => exact ⟨(wrap64 (a1 + 1)), rq, H', ⟨Nat.le_refl _⟩, by repeat (first | exact Drawn0.refl _ | apply Drawn0.step)⟩
 case round =>
  clear H'
  obtain ⟨x7_1, rfl, HA, HK1, ⟨m1, rfl⟩⟩ := hrel
  cases gk with
  | zero => exact absurd HA.out (by simp [incunableref06_first.l0])
  | succ k1 =>
   have H := HA.out
   clear HA
   simp only [incunableref06_first.l0] at H
   by_cases c4 : x7_1 < (l0.length : Int)
   ·rw [if_pos c4] at H
    have c4b0 := decide_eq_true c4
    clear c4
    replace H := Option.bind_eq_some_iff.mp H
    obtain ⟨t350, A50, H⟩ := H
    replace H : (if t350 = a2 then (some x7_1) else (incunableref06_first.l0 k1 l0 a2 (wrap64 (x7_1 + 1)))) = some r := H
    have A5 := Aside0.mk A50
    clear A50
    by_cases c6 : t350 = a2
    ·rw [if_pos c6] at H
     have c6b0 := beq_iff_eq.mpr c6
     have c6b1 := bne_eq_false_iff_eq.mpr c6
     clear c6
     obtain rfl := Option.some.inj H
     go_wp2_with (first | ((with_reducible refine gf 91 rfl ?_); refine gL (some 18) rfl rfl Tryd.func91 rfl #[.slice A0 l0.length c0, .int .i64 x7_1] rfl ?_; (with_reducible refine (incunableref06_at.calls _ _ l0 x7_1 t350 _ ?side1 ?side2 A5.out).mono ?_); (case side1 => exact cU HR0.out); (case side2 => exact HC0.out); rintro e w' ⟨rfl, ⟨nd, rfl⟩⟩; refine ⟨_, rfl, ?_⟩))
     go_ret
     exact ⟨by first | rfl | (simp; done) | (simp [*]; done), by repeat (first | exact Drawn0.refl _ | apply Drawn0.step)⟩
    ·rw [if_neg c6] at H
     have c6b0 := beq_eq_false_iff_ne.mpr c6
     have c6b1 := bne_iff_ne.mpr c6
     have H' := Aside0.mk H
     clear H
     go_wp2_with (first | ((with_reducible refine gf 91 rfl ?_); refine gL (some 18) rfl rfl Tryd.func91 rfl #[.slice A0 l0.length c0, .int .i64 x7_1] rfl ?_; (with_reducible refine (incunableref06_at.calls _ _ l0 x7_1 t350 _ ?side1 ?side2 A5.out).mono ?_); (case side1 => exact cU HR0.out); (case side2 => exact HC0.out); rintro e w' ⟨rfl, ⟨nd, rfl⟩⟩; refine ⟨_, rfl, ?_⟩))
     go_roundg k1
     case measure => have := HK1.out; omega
     case rel => exact ⟨(wrap64 (x7_1 + 1)), rq, H', ⟨by have := HK1.out; omega⟩, by repeat (first | exact Drawn0.refl _ | apply Drawn0.step)⟩
   ·rw [if_neg c4] at H
    have c4b0 := decide_eq_false c4
    clear c4
    obtain rfl := Option.some.inj H
    go_wp2
    go_ret
    exact ⟨by first | rfl | (simp; done) | (simp [*]; done), by repeat (first | exact Drawn0.refl _ | apply Drawn0.step)⟩

/-! ### incunableref06_bitsOf: function 71 -/
def incunableref06_bitsOf.l0 : Nat → ByteArray → List Int → Int → Option (List Int)
 | 0, _, _, _ => none
 | k + 1, x0, x3, x4 => if x4 < (x0.size : Int) then (if 0 ≤ x4 then (if x3.length < 140737488355328 then (incunableref06_bitsOf.l0 k x0 (x3 ++ [((bt x0 x4) - 48) % 256]) (wrap64 (x4 + 1))) else (none)) else (none)) else (some x3)
def incunableref06_bitsOf.f (k : Nat) (a0 : ByteArray) : Option (List Int) := incunableref06_bitsOf.l0 k a0 ([] : List Int) 0
theorem incunableref06_bitsOf.mono_l : ∀ k, (∀ y0 y1 y2, LeO (incunableref06_bitsOf.l0 k y0 y1 y2) (incunableref06_bitsOf.l0 (k + 1) y0 y1 y2))
 | 0 => fun _ _ _ r h => by simp [incunableref06_bitsOf.l0] at h
 | k + 1 => by
  have ih0 := incunableref06_bitsOf.mono_l k
  ·intro y0 y1 y2
   unfold incunableref06_bitsOf.l0
   repeat' first
   | (with_reducible exact ih0 _ _ _)
   | (with_reducible first | exact LeO.refl _ | exact LeO.none _ | refine LeO.ite ?_ ?_ | refine LeO.bind ?_ (fun _ => ?_))
   | exact ih0 _ _ _
   | exact LeO.none _ | refine LeO.ite ?_ ?_ | refine LeO.bind ?_ (fun _ => ?_)
theorem incunableref06_bitsOf.mono : ∀ a0 k, LeO (incunableref06_bitsOf.f k a0) (incunableref06_bitsOf.f (k + 1) a0) := by
 intro a0 k
 have ih0 := incunableref06_bitsOf.mono_l k
 unfold incunableref06_bitsOf.f
 repeat' first
   | (with_reducible exact ih0 _ _ _)
   | (with_reducible first | exact LeO.refl _ | exact LeO.none _ | refine LeO.ite ?_ ?_ | refine LeO.bind ?_ (fun _ => ?_))
   | exact ih0 _ _ _
   | exact LeO.none _ | refine LeO.ite ?_ ?_ | refine LeO.bind ?_ (fun _ => ?_)
set_option maxHeartbeats 8000000 in
set_option maxRecDepth 100000 in
theorem incunableref06_bitsOf.calls (k : Nat) (a0 : ByteArray) (r : List Int) (w : World) (h : incunableref06_bitsOf.f k a0 = some r) :
  Calls Tryd.prog 71 #[.string a0] w fun e w' => ∃ v0_ : Value, e = .returned (v0_) ∧ Kd.R (Kd.int .u8) 5 w' w.heap.size (fun _ => True) v0_ r ∧ Below w.heap.size w w' := by
 have HB := Aside0.mk (Below.refl w.heap.size w)
 have H : (incunableref06_bitsOf.l0 k a0 ([] : List Int) 0) = some r := h
 clear h
 have H' := Aside0.mk H
 clear H
 go_enter Tryd.func71, Tryd.ntmps71
 go_wp2
 go_loopg [3, 4] k (fun kq v3 v4 w' => ∃ (x3_1 : List Int) (x4_1 : Int), v4 = .int .i64 x4_1 ∧ Aside0 (incunableref06_bitsOf.l0 kq a0 x3_1 x4_1 = some r) ∧ Aside0 (kq ≤ k) ∧ Aside0 (Kd.R (Kd.int .u8) 5 w' w.heap.size (fun _ => True) v3 x3_1) ∧ Aside0 (Below w.heap.size w w'))
 case atStart => exact ⟨(([] : List Int)), (0), rq, H', ⟨Nat.le_refl _⟩, ⟨by first | exact Kd.R_nil _ _ _ _ _ | exact Kd.N_nil _ _ _ _ _ | exact Kd.V_nil _ _ _ _ _ | exact Kd.Q_nil _ _ _ _ _ | exact Kd.S_nil _ _ _ _ _⟩, ⟨bl⟩⟩
 case round =>
  clear H'
  obtain ⟨x3_1, x4_1, rfl, HA, HK1, HO_3, HB⟩ := hrel
  cases gk with
  | zero => exact absurd HA.out (by simp [incunableref06_bitsOf.l0])
  | succ k1 =>
   have H := HA.out
   clear HA
   simp only [incunableref06_bitsOf.l0] at H
   by_cases c2 : x4_1 < (a0.size : Int)
   ·rw [if_pos c2] at H
    have c2b0 := decide_eq_true c2
    clear c2
    by_cases c3 : 0 ≤ x4_1
    ·rw [if_pos c3] at H
     have c3b0 := decide_eq_true c3
     clear c3
     by_cases c5 : x3_1.length < 140737488355328
     ·rw [if_pos c5] at H
      have LMc5 := Aside0.mk c5
      clear c5
      obtain ⟨y351, hy_⟩ : ∃ y_ : List Int, y_ = (x3_1 ++ [((bt a0 x4_1) - 48) % 256]) := ⟨_, rfl⟩
      replace H : (incunableref06_bitsOf.l0 k1 a0 y351 (wrap64 (x4_1 + 1))) = some r := rh
      have Ny351 := aE hy_
      clear hy_
      have H' := Aside0.mk H
      clear H
      have p4 : 0 ≤ (x4_1 : Int) := dt
      have q4 : x4_1 < (a0.size : Int) := dt
      have hx4 := bt_at a0 x4_1
      replace p4 := eq_true p4
      replace q4 := eq_true q4
      go_wp2_with (first | ((with_reducible refine gate_builtin (b := .append) (xs := #[.tmp 11, .tmp 16]) rfl ?_); at_builtin; refine Kd.R_append (Kd.int .u8) (w0 := w) w.heap.size rfl (.tmp 11) (.tmp 16) 22 5 (.int .u8 0) 1 rfl Tryd.underlying22 info5 rfl (by decide) (by omega) u3 x3_1 (((bt a0 x4_1) - 48) % 256) [.int .u8 (((bt a0 x4_1) - 48) % 256)] (fun _ => True) (fun _ => False) rfl rfl ?aP (fun _ hk => hk.elim) ?aF ?aO ?aB ?aS ?aL ?_; (case aP => exact rfl); (case aB => exact bl); (case aF => exact (fun _ _ => trivial)); (case aO => exact (rU HO_3.out)); (case aS => exact bz); (case aL => have := LMc5.out; omega); intro v352 w6 ho hb hg hat; rw [← Ny351.out] at ho; have n_ := aC hb (aE ho); clear HB HO_3; obtain ⟨HB, HO353⟩ := n_; clear ho hb hg hat))
      go_roundg k1
      case measure => have := HK1.out; omega
      case rel => exact ⟨(y351), (wrap64 (x4_1 + 1)), rq, H', ⟨by have := HK1.out; omega⟩, ⟨rU HO353.out⟩, ⟨bl⟩⟩
     ·rw [if_neg c5] at H
      exact absurd H (by simp)
    ·rw [if_neg c3] at H
     exact absurd H (by simp)
   ·rw [if_neg c2] at H
    have c2b0 := decide_eq_false c2
    clear c2
    obtain rfl := Option.some.inj H
    go_wp2
    go_ret
    exact ⟨_, re, rU HO_3.out, bl⟩

/-! ### incunableref06_name: function 72 -/
def incunableref06_name.f (a0 : Int) : Option (ByteArray) := if a0 = (-3) then (some (⟨#[117, 112, 45, 51]⟩ : ByteArray)) else (if a0 = (-2) then (some (⟨#[117, 112, 45, 50]⟩ : ByteArray)) else (if a0 = (-1) then (some (⟨#[117, 112, 45, 49]⟩ : ByteArray)) else (if a0 = 0 then (some (⟨#[117, 112, 48]⟩ : ByteArray)) else (if a0 = 1 then (some (⟨#[117, 112, 49]⟩ : ByteArray)) else (if a0 = 2 then (some (⟨#[117, 112, 50]⟩ : ByteArray)) else (some (⟨#[117, 112, 51]⟩ : ByteArray)))))))
set_option maxHeartbeats 8000000 in
set_option maxRecDepth 100000 in
theorem incunableref06_name.calls (a0 : Int) (r : ByteArray) (w : World) (h : incunableref06_name.f a0 = some r) :
  Calls Tryd.prog 72 #[.int .i64 a0] w fun e w' => e = .returned (.string r) ∧ Drawn0 w w' := by
 have H : (if a0 = (-3) then (some (⟨#[117, 112, 45, 51]⟩ : ByteArray)) else (if a0 = (-2) then (some (⟨#[117, 112, 45, 50]⟩ : ByteArray)) else (if a0 = (-1) then (some (⟨#[117, 112, 45, 49]⟩ : ByteArray)) else (if a0 = 0 then (some (⟨#[117, 112, 48]⟩ : ByteArray)) else (if a0 = 1 then (some (⟨#[117, 112, 49]⟩ : ByteArray)) else (if a0 = 2 then (some (⟨#[117, 112, 50]⟩ : ByteArray)) else (some (⟨#[117, 112, 51]⟩ : ByteArray)))))))) = some r := h
 clear h
 by_cases c2 : a0 = (-3)
 ·rw [if_pos c2] at H
  have c2b0 := beq_iff_eq.mpr c2
  have c2b1 := bne_eq_false_iff_eq.mpr c2
  clear c2
  obtain rfl := Option.some.inj H
  go_enter Tryd.func72, Tryd.ntmps72
  go_wp2
  go_ret
  exact ⟨by first | rfl | (simp; done) | (simp [*]; done), by repeat (first | exact Drawn0.refl _ | apply Drawn0.step)⟩
 ·rw [if_neg c2] at H
  have c2b0 := beq_eq_false_iff_ne.mpr c2
  have c2b1 := bne_iff_ne.mpr c2
  by_cases c3 : a0 = (-2)
  ·rw [if_pos c3] at H
   have c3b0 := beq_iff_eq.mpr c3
   have c3b1 := bne_eq_false_iff_eq.mpr c3
   clear c3
   obtain rfl := Option.some.inj H
   go_enter Tryd.func72, Tryd.ntmps72
   go_wp2
   go_ret
   exact ⟨by first | rfl | (simp; done) | (simp [*]; done), by repeat (first | exact Drawn0.refl _ | apply Drawn0.step)⟩
  ·rw [if_neg c3] at H
   have c3b0 := beq_eq_false_iff_ne.mpr c3
   have c3b1 := bne_iff_ne.mpr c3
   by_cases c4 : a0 = (-1)
   ·rw [if_pos c4] at H
    have c4b0 := beq_iff_eq.mpr c4
    have c4b1 := bne_eq_false_iff_eq.mpr c4
    clear c4
    obtain rfl := Option.some.inj H
    go_enter Tryd.func72, Tryd.ntmps72
    go_wp2
    go_ret
    exact ⟨by first | rfl | (simp; done) | (simp [*]; done), by repeat (first | exact Drawn0.refl _ | apply Drawn0.step)⟩
   ·rw [if_neg c4] at H
    have c4b0 := beq_eq_false_iff_ne.mpr c4
    have c4b1 := bne_iff_ne.mpr c4
    by_cases c5 : a0 = 0
    ·rw [if_pos c5] at H
     have c5b0 := beq_iff_eq.mpr c5
     have c5b1 := bne_eq_false_iff_eq.mpr c5
     clear c5
     obtain rfl := Option.some.inj H
     go_enter Tryd.func72, Tryd.ntmps72
     go_wp2
     go_ret
     exact ⟨by first | rfl | (simp; done) | (simp [*]; done), by repeat (first | exact Drawn0.refl _ | apply Drawn0.step)⟩
    ·rw [if_neg c5] at H
     have c5b0 := beq_eq_false_iff_ne.mpr c5
     have c5b1 := bne_iff_ne.mpr c5
     by_cases c6 : a0 = 1
     ·rw [if_pos c6] at H
      have c6b0 := beq_iff_eq.mpr c6
      have c6b1 := bne_eq_false_iff_eq.mpr c6
      clear c6
      obtain rfl := Option.some.inj H
      go_enter Tryd.func72, Tryd.ntmps72
      go_wp2
      go_ret
      exact ⟨by first | rfl | (simp; done) | (simp [*]; done), by repeat (first | exact Drawn0.refl _ | apply Drawn0.step)⟩
     ·rw [if_neg c6] at H
      have c6b0 := beq_eq_false_iff_ne.mpr c6
      have c6b1 := bne_iff_ne.mpr c6
      by_cases c7 : a0 = 2
      ·rw [if_pos c7] at H
       have c7b0 := beq_iff_eq.mpr c7
       have c7b1 := bne_eq_false_iff_eq.mpr c7
       clear c7
       obtain rfl := Option.some.inj H
       go_enter Tryd.func72, Tryd.ntmps72
       go_wp2
       go_ret
       exact ⟨by first | rfl | (simp; done) | (simp [*]; done), by repeat (first | exact Drawn0.refl _ | apply Drawn0.step)⟩
      ·rw [if_neg c7] at H
       have c7b0 := beq_eq_false_iff_ne.mpr c7
       have c7b1 := bne_iff_ne.mpr c7
       obtain rfl := Option.some.inj H
       go_enter Tryd.func72, Tryd.ntmps72
       go_wp2
       go_ret
       exact ⟨by first | rfl | (simp; done) | (simp [*]; done), by repeat (first | exact Drawn0.refl _ | apply Drawn0.step)⟩

/-! ### incunableref06_upright: function 73 -/
def incunableref06_upright.f (a0 : Int) : Option (ByteArray) := if a0 = 0 then (some (⟨#[49]⟩ : ByteArray)) else (if a0 = 1 then (some (⟨#[48, 49, 49]⟩ : ByteArray)) else (if a0 = 2 then (some (⟨#[48, 48, 48, 48, 49, 49]⟩ : ByteArray)) else (if a0 = 3 then (some (⟨#[48, 48, 48, 48, 48, 49, 49]⟩ : ByteArray)) else (if a0 = (-1) then (some (⟨#[48, 49, 48]⟩ : ByteArray)) else (if a0 = (-2) then (some (⟨#[48, 48, 48, 48, 49, 48]⟩ : ByteArray)) else (some (⟨#[48, 48, 48, 48, 48, 49, 48]⟩ : ByteArray)))))))
set_option maxHeartbeats 8000000 in
set_option maxRecDepth 100000 in
theorem incunableref06_upright.calls (a0 : Int) (r : ByteArray) (w : World) (h : incunableref06_upright.f a0 = some r) :
  Calls Tryd.prog 73 #[.int .i64 a0] w fun e w' => e = .returned (.string r) ∧ Drawn0 w w' := by
 have H : (if a0 = 0 then (some (⟨#[49]⟩ : ByteArray)) else (if a0 = 1 then (some (⟨#[48, 49, 49]⟩ : ByteArray)) else (if a0 = 2 then (some (⟨#[48, 48, 48, 48, 49, 49]⟩ : ByteArray)) else (if a0 = 3 then (some (⟨#[48, 48, 48, 48, 48, 49, 49]⟩ : ByteArray)) else (if a0 = (-1) then (some (⟨#[48, 49, 48]⟩ : ByteArray)) else (if a0 = (-2) then (some (⟨#[48, 48, 48, 48, 49, 48]⟩ : ByteArray)) else (some (⟨#[48, 48, 48, 48, 48, 49, 48]⟩ : ByteArray)))))))) = some r := h
 clear h
 by_cases c2 : a0 = 0
 ·rw [if_pos c2] at H
  have c2b0 := beq_iff_eq.mpr c2
  have c2b1 := bne_eq_false_iff_eq.mpr c2
  clear c2
  obtain rfl := Option.some.inj H
  go_enter Tryd.func73, Tryd.ntmps73
  go_wp2
  go_ret
  exact ⟨by first | rfl | (simp; done) | (simp [*]; done), by repeat (first | exact Drawn0.refl _ | apply Drawn0.step)⟩
 ·rw [if_neg c2] at H
  have c2b0 := beq_eq_false_iff_ne.mpr c2
  have c2b1 := bne_iff_ne.mpr c2
  by_cases c3 : a0 = 1
  ·rw [if_pos c3] at H
   have c3b0 := beq_iff_eq.mpr c3
   have c3b1 := bne_eq_false_iff_eq.mpr c3
   clear c3
   obtain rfl := Option.some.inj H
   go_enter Tryd.func73, Tryd.ntmps73
   go_wp2
   go_ret
   exact ⟨by first | rfl | (simp; done) | (simp [*]; done), by repeat (first | exact Drawn0.refl _ | apply Drawn0.step)⟩
  ·rw [if_neg c3] at H
   have c3b0 := beq_eq_false_iff_ne.mpr c3
   have c3b1 := bne_iff_ne.mpr c3
   by_cases c4 : a0 = 2
   ·rw [if_pos c4] at H
    have c4b0 := beq_iff_eq.mpr c4
    have c4b1 := bne_eq_false_iff_eq.mpr c4
    clear c4
    obtain rfl := Option.some.inj H
    go_enter Tryd.func73, Tryd.ntmps73
    go_wp2
    go_ret
    exact ⟨by first | rfl | (simp; done) | (simp [*]; done), by repeat (first | exact Drawn0.refl _ | apply Drawn0.step)⟩
   ·rw [if_neg c4] at H
    have c4b0 := beq_eq_false_iff_ne.mpr c4
    have c4b1 := bne_iff_ne.mpr c4
    by_cases c5 : a0 = 3
    ·rw [if_pos c5] at H
     have c5b0 := beq_iff_eq.mpr c5
     have c5b1 := bne_eq_false_iff_eq.mpr c5
     clear c5
     obtain rfl := Option.some.inj H
     go_enter Tryd.func73, Tryd.ntmps73
     go_wp2
     go_ret
     exact ⟨by first | rfl | (simp; done) | (simp [*]; done), by repeat (first | exact Drawn0.refl _ | apply Drawn0.step)⟩
    ·rw [if_neg c5] at H
     have c5b0 := beq_eq_false_iff_ne.mpr c5
     have c5b1 := bne_iff_ne.mpr c5
     by_cases c6 : a0 = (-1)
     ·rw [if_pos c6] at H
      have c6b0 := beq_iff_eq.mpr c6
      have c6b1 := bne_eq_false_iff_eq.mpr c6
      clear c6
      obtain rfl := Option.some.inj H
      go_enter Tryd.func73, Tryd.ntmps73
      go_wp2
      go_ret
      exact ⟨by first | rfl | (simp; done) | (simp [*]; done), by repeat (first | exact Drawn0.refl _ | apply Drawn0.step)⟩
     ·rw [if_neg c6] at H
      have c6b0 := beq_eq_false_iff_ne.mpr c6
      have c6b1 := bne_iff_ne.mpr c6
      by_cases c7 : a0 = (-2)
      ·rw [if_pos c7] at H
       have c7b0 := beq_iff_eq.mpr c7
       have c7b1 := bne_eq_false_iff_eq.mpr c7
       clear c7
       obtain rfl := Option.some.inj H
       go_enter Tryd.func73, Tryd.ntmps73
       go_wp2
       go_ret
       exact ⟨by first | rfl | (simp; done) | (simp [*]; done), by repeat (first | exact Drawn0.refl _ | apply Drawn0.step)⟩
      ·rw [if_neg c7] at H
       have c7b0 := beq_eq_false_iff_ne.mpr c7
       have c7b1 := bne_iff_ne.mpr c7
       obtain rfl := Option.some.inj H
       go_enter Tryd.func73, Tryd.ntmps73
       go_wp2
       go_ret
       exact ⟨by first | rfl | (simp; done) | (simp [*]; done), by repeat (first | exact Drawn0.refl _ | apply Drawn0.step)⟩

end Go.Proofs.YtknclbodinfbeaaDoor.PRunsModes
