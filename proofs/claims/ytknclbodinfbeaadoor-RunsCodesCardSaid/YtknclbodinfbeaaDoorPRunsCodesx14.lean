-- Written by a program of this session (wip/tools/myprint.py) over the kit's print. Not trusted: Lean checks it.
import Derived.Test.YtknclbodinfbeaaDoorPRunsCodesx0
import Derived.Test.YtknclbodinfbeaaDoorPRunsCodesx13
namespace Go.Proofs.YtknclbodinfbeaaDoor.PRunsCodes
open Go.RowKit Go.Proofs.YtknclbodinfbeaaDoorW.PrintWords Go.Proofs.YtknclbodinfbeaaDoorW.PrintLast Go.Proofs.YtknclbodinfbeaaDoorW.PrintMore
attribute [local go_sem] max2_int min2_int max_two min_two max_three min_three max_four min_four   -- for this text's walks alone
set_option linter.unusedVariables false
set_option linter.unusedSimpArgs false

/-! ### incunableref04_Standard: function 38 -/
def incunableref04_Standard.f (a0 : Int) : Option ((List (S87))) := if a0 = 0 then (some (([(⟨1, 0, 0, 0⟩ : S87), (⟨2, 1, 1, 0⟩ : S87), (⟨3, 3, 3, 0⟩ : S87), (⟨4, 5, 11, 0⟩ : S87), (⟨5, 8, 43, 0⟩ : S87), (⟨5, 20, 299, 0⟩ : S87)] : List (S87)))) else (if a0 = 1 then (some (([(⟨1, 2, 0, 0⟩ : S87), (⟨2, 4, 4, 0⟩ : S87), (⟨3, 8, 20, 0⟩ : S87), (⟨4, 20, (-1), 1⟩ : S87), (⟨4, 0, 0, 2⟩ : S87)] : List (S87)))) else (if a0 = 2 then (some (([(⟨1, 0, 0, 0⟩ : S87), (⟨3, 2, 1, 0⟩ : S87), (⟨3, 2, (-1), 1⟩ : S87), (⟨3, 20, 5, 0⟩ : S87), (⟨3, 20, (-5), 1⟩ : S87)] : List (S87)))) else (some ([] : List (S87)))))
set_option maxHeartbeats 8000000 in
set_option maxRecDepth 100000 in
theorem incunableref04_Standard.calls (a0 : Int) (r : List (S87)) (w : World) (h : incunableref04_Standard.f a0 = some r) :
  Calls Tryd.prog 38 #[.int .i64 a0] w fun e w' => ∃ v0_ : Value, e = .returned (v0_) ∧ Kd.R k87 87 w' w.heap.size (fun _ => True) v0_ r ∧ Below w.heap.size w w' := by
 have hu87 := Tryd.underlying87
 have HB := Aside0.mk (Below.refl w.heap.size w)
 have H : (if a0 = 0 then (some (([(⟨1, 0, 0, 0⟩ : S87), (⟨2, 1, 1, 0⟩ : S87), (⟨3, 3, 3, 0⟩ : S87), (⟨4, 5, 11, 0⟩ : S87), (⟨5, 8, 43, 0⟩ : S87), (⟨5, 20, 299, 0⟩ : S87)] : List (S87)))) else (if a0 = 1 then (some (([(⟨1, 2, 0, 0⟩ : S87), (⟨2, 4, 4, 0⟩ : S87), (⟨3, 8, 20, 0⟩ : S87), (⟨4, 20, (-1), 1⟩ : S87), (⟨4, 0, 0, 2⟩ : S87)] : List (S87)))) else (if a0 = 2 then (some (([(⟨1, 0, 0, 0⟩ : S87), (⟨3, 2, 1, 0⟩ : S87), (⟨3, 2, (-1), 1⟩ : S87), (⟨3, 20, 5, 0⟩ : S87), (⟨3, 20, (-5), 1⟩ : S87)] : List (S87)))) else (some ([] : List (S87)))))) = some r := h
 clear h
 by_cases c2 : a0 = 0
 ·rw [if_pos c2] at H
  have c2b0 := beq_iff_eq.mpr c2
  have c2b1 := bne_eq_false_iff_eq.mpr c2
  clear c2
  obtain ⟨y420, hy_⟩ : ∃ y_ : List (S87), y_ = (([(⟨1, 0, 0, 0⟩ : S87), (⟨2, 1, 1, 0⟩ : S87), (⟨3, 3, 3, 0⟩ : S87), (⟨4, 5, 11, 0⟩ : S87), (⟨5, 8, 43, 0⟩ : S87), (⟨5, 20, 299, 0⟩ : S87)] : List (S87))) := ⟨_, rfl⟩
  replace H : (some y420) = some r := rh
  have Ny420 := aE hy_
  clear hy_
  obtain rfl := Option.some.inj H
  go_enter Tryd.func38, Tryd.ntmps38
  go_wp2_with (first | ((with_reducible refine gd 12 rfl ?_); refine Kd.R_lit k87 _ 87 ?hg (N := 12) ?hd (xs := ([(⟨1, 0, 0, 0⟩ : S87), (⟨2, 1, 1, 0⟩ : S87), (⟨3, 3, 3, 0⟩ : S87), (⟨4, 5, 11, 0⟩ : S87), (⟨5, 8, 43, 0⟩ : S87), (⟨5, 20, 299, 0⟩ : S87)] : List (S87))) (inner := [.int .i64 1, .int .i64 0, .int .i64 0, .int .i64 0, .int .i64 2, .int .i64 1, .int .i64 1, .int .i64 0, .int .i64 3, .int .i64 3, .int .i64 3, .int .i64 0, .int .i64 4, .int .i64 5, .int .i64 11, .int .i64 0, .int .i64 5, .int .i64 8, .int .i64 43, .int .i64 0, .int .i64 5, .int .i64 20, .int .i64 299, .int .i64 0]) (ok := fun _ => True) (okp := fun _ => True) ?hr ?hp (fun _ hk => hk) trivial (Below.refl _ _) (Nat.le_refl _) (by simp) ?_; (case hd => rfl); (case hg => rfl); (case hr => first | (go_simp; done) | (go_simp; rfl)); (case hp => exact (Reps.c4 (show Kd.M k87 _ _ _ (⟨1, 0, 0, 0⟩ : S87) [.int .i64 1, .int .i64 0, .int .i64 0, .int .i64 0] from (k87_mkM _ _ _ (⟨1, 0, 0, 0⟩ : S87) )) (Reps.c4 (show Kd.M k87 _ _ _ (⟨2, 1, 1, 0⟩ : S87) [.int .i64 2, .int .i64 1, .int .i64 1, .int .i64 0] from (k87_mkM _ _ _ (⟨2, 1, 1, 0⟩ : S87) )) (Reps.c4 (show Kd.M k87 _ _ _ (⟨3, 3, 3, 0⟩ : S87) [.int .i64 3, .int .i64 3, .int .i64 3, .int .i64 0] from (k87_mkM _ _ _ (⟨3, 3, 3, 0⟩ : S87) )) (Reps.c4 (show Kd.M k87 _ _ _ (⟨4, 5, 11, 0⟩ : S87) [.int .i64 4, .int .i64 5, .int .i64 11, .int .i64 0] from (k87_mkM _ _ _ (⟨4, 5, 11, 0⟩ : S87) )) (Reps.c4 (show Kd.M k87 _ _ _ (⟨5, 8, 43, 0⟩ : S87) [.int .i64 5, .int .i64 8, .int .i64 43, .int .i64 0] from (k87_mkM _ _ _ (⟨5, 8, 43, 0⟩ : S87) )) (Reps.c4 (show Kd.M k87 _ _ _ (⟨5, 20, 299, 0⟩ : S87) [.int .i64 5, .int .i64 20, .int .i64 299, .int .i64 0] from (k87_mkM _ _ _ (⟨5, 20, 299, 0⟩ : S87) )) (Reps.none _ _)))))))); intro v421 w3 ho4 hb hg_ hnew_; clear hg_ hnew_; (first | rw [← Ny420.out] at ho4 | (simp only [Int.reduceToNat] at ho4; rw [← Ny420.out] at ho4)); have n_ := aC (Kd.R_lower ho4 bz) (aE (bs hb)); clear HB; obtain ⟨HO422, HB⟩ := n_; clear hb ho4))
  go_ret
  exact ⟨_, re, rU HO422.out, bl⟩
 ·rw [if_neg c2] at H
  have c2b0 := beq_eq_false_iff_ne.mpr c2
  have c2b1 := bne_iff_ne.mpr c2
  by_cases c5 : a0 = 1
  ·rw [if_pos c5] at H
   have c5b0 := beq_iff_eq.mpr c5
   have c5b1 := bne_eq_false_iff_eq.mpr c5
   clear c5
   obtain ⟨y423, hy_⟩ : ∃ y_ : List (S87), y_ = (([(⟨1, 2, 0, 0⟩ : S87), (⟨2, 4, 4, 0⟩ : S87), (⟨3, 8, 20, 0⟩ : S87), (⟨4, 20, (-1), 1⟩ : S87), (⟨4, 0, 0, 2⟩ : S87)] : List (S87))) := ⟨_, rfl⟩
   replace H : (some y423) = some r := rh
   have Ny423 := aE hy_
   clear hy_
   obtain rfl := Option.some.inj H
   go_enter Tryd.func38, Tryd.ntmps38
   go_wp2_with (first | ((with_reducible refine gd 20 rfl ?_); refine Kd.R_lit k87 _ 87 ?hg (N := 20) ?hd (xs := ([(⟨1, 2, 0, 0⟩ : S87), (⟨2, 4, 4, 0⟩ : S87), (⟨3, 8, 20, 0⟩ : S87), (⟨4, 20, (-1), 1⟩ : S87), (⟨4, 0, 0, 2⟩ : S87)] : List (S87))) (inner := [.int .i64 1, .int .i64 2, .int .i64 0, .int .i64 0, .int .i64 2, .int .i64 4, .int .i64 4, .int .i64 0, .int .i64 3, .int .i64 8, .int .i64 20, .int .i64 0, .int .i64 4, .int .i64 20, .int .i64 (-1), .int .i64 1, .int .i64 4, .int .i64 0, .int .i64 0, .int .i64 2]) (ok := fun _ => True) (okp := fun _ => True) ?hr ?hp (fun _ hk => hk) trivial (Below.refl _ _) (Nat.le_refl _) (by simp) ?_; (case hd => rfl); (case hg => rfl); (case hr => first | (go_simp; done) | (go_simp; rfl)); (case hp => exact (Reps.c4 (show Kd.M k87 _ _ _ (⟨1, 2, 0, 0⟩ : S87) [.int .i64 1, .int .i64 2, .int .i64 0, .int .i64 0] from (k87_mkM _ _ _ (⟨1, 2, 0, 0⟩ : S87) )) (Reps.c4 (show Kd.M k87 _ _ _ (⟨2, 4, 4, 0⟩ : S87) [.int .i64 2, .int .i64 4, .int .i64 4, .int .i64 0] from (k87_mkM _ _ _ (⟨2, 4, 4, 0⟩ : S87) )) (Reps.c4 (show Kd.M k87 _ _ _ (⟨3, 8, 20, 0⟩ : S87) [.int .i64 3, .int .i64 8, .int .i64 20, .int .i64 0] from (k87_mkM _ _ _ (⟨3, 8, 20, 0⟩ : S87) )) (Reps.c4 (show Kd.M k87 _ _ _ (⟨4, 20, (-1), 1⟩ : S87) [.int .i64 4, .int .i64 20, .int .i64 (-1), .int .i64 1] from (k87_mkM _ _ _ (⟨4, 20, (-1), 1⟩ : S87) )) (Reps.c4 (show Kd.M k87 _ _ _ (⟨4, 0, 0, 2⟩ : S87) [.int .i64 4, .int .i64 0, .int .i64 0, .int .i64 2] from (k87_mkM _ _ _ (⟨4, 0, 0, 2⟩ : S87) )) (Reps.none _ _))))))); intro v424 w6 ho7 hb hg_ hnew_; clear hg_ hnew_; (first | rw [← Ny423.out] at ho7 | (simp only [Int.reduceToNat] at ho7; rw [← Ny423.out] at ho7)); have n_ := aC (Kd.R_lower ho7 bz) (aE (bs hb)); clear HB; obtain ⟨HO425, HB⟩ := n_; clear hb ho7))
   go_ret
   exact ⟨_, re, rU HO425.out, bl⟩
  ·rw [if_neg c5] at H
   have c5b0 := beq_eq_false_iff_ne.mpr c5
   have c5b1 := bne_iff_ne.mpr c5
   by_cases c8 : a0 = 2
   ·rw [if_pos c8] at H
    have c8b0 := beq_iff_eq.mpr c8
    have c8b1 := bne_eq_false_iff_eq.mpr c8
    clear c8
    obtain ⟨y426, hy_⟩ : ∃ y_ : List (S87), y_ = (([(⟨1, 0, 0, 0⟩ : S87), (⟨3, 2, 1, 0⟩ : S87), (⟨3, 2, (-1), 1⟩ : S87), (⟨3, 20, 5, 0⟩ : S87), (⟨3, 20, (-5), 1⟩ : S87)] : List (S87))) := ⟨_, rfl⟩
    replace H : (some y426) = some r := rh
    have Ny426 := aE hy_
    clear hy_
    obtain rfl := Option.some.inj H
    go_enter Tryd.func38, Tryd.ntmps38
    go_wp2_with (first | ((with_reducible refine gd 28 rfl ?_); refine Kd.R_lit k87 _ 87 ?hg (N := 28) ?hd (xs := ([(⟨1, 0, 0, 0⟩ : S87), (⟨3, 2, 1, 0⟩ : S87), (⟨3, 2, (-1), 1⟩ : S87), (⟨3, 20, 5, 0⟩ : S87), (⟨3, 20, (-5), 1⟩ : S87)] : List (S87))) (inner := [.int .i64 1, .int .i64 0, .int .i64 0, .int .i64 0, .int .i64 3, .int .i64 2, .int .i64 1, .int .i64 0, .int .i64 3, .int .i64 2, .int .i64 (-1), .int .i64 1, .int .i64 3, .int .i64 20, .int .i64 5, .int .i64 0, .int .i64 3, .int .i64 20, .int .i64 (-5), .int .i64 1]) (ok := fun _ => True) (okp := fun _ => True) ?hr ?hp (fun _ hk => hk) trivial (Below.refl _ _) (Nat.le_refl _) (by simp) ?_; (case hd => rfl); (case hg => rfl); (case hr => first | (go_simp; done) | (go_simp; rfl)); (case hp => exact (Reps.c4 (show Kd.M k87 _ _ _ (⟨1, 0, 0, 0⟩ : S87) [.int .i64 1, .int .i64 0, .int .i64 0, .int .i64 0] from (k87_mkM _ _ _ (⟨1, 0, 0, 0⟩ : S87) )) (Reps.c4 (show Kd.M k87 _ _ _ (⟨3, 2, 1, 0⟩ : S87) [.int .i64 3, .int .i64 2, .int .i64 1, .int .i64 0] from (k87_mkM _ _ _ (⟨3, 2, 1, 0⟩ : S87) )) (Reps.c4 (show Kd.M k87 _ _ _ (⟨3, 2, (-1), 1⟩ : S87) [.int .i64 3, .int .i64 2, .int .i64 (-1), .int .i64 1] from (k87_mkM _ _ _ (⟨3, 2, (-1), 1⟩ : S87) )) (Reps.c4 (show Kd.M k87 _ _ _ (⟨3, 20, 5, 0⟩ : S87) [.int .i64 3, .int .i64 20, .int .i64 5, .int .i64 0] from (k87_mkM _ _ _ (⟨3, 20, 5, 0⟩ : S87) )) (Reps.c4 (show Kd.M k87 _ _ _ (⟨3, 20, (-5), 1⟩ : S87) [.int .i64 3, .int .i64 20, .int .i64 (-5), .int .i64 1] from (k87_mkM _ _ _ (⟨3, 20, (-5), 1⟩ : S87) )) (Reps.none _ _))))))); intro v427 w9 ho10 hb hg_ hnew_; clear hg_ hnew_; (first | rw [← Ny426.out] at ho10 | (simp only [Int.reduceToNat] at ho10; rw [← Ny426.out] at ho10)); have n_ := aC (Kd.R_lower ho10 bz) (aE (bs hb)); clear HB; obtain ⟨HO428, HB⟩ := n_; clear hb ho10))
    go_ret
    exact ⟨_, re, rU HO428.out, bl⟩
   ·rw [if_neg c8] at H
    have c8b0 := beq_eq_false_iff_ne.mpr c8
    have c8b1 := bne_iff_ne.mpr c8
    obtain rfl := Option.some.inj H
    go_enter Tryd.func38, Tryd.ntmps38
    go_wp2
    go_ret
    exact ⟨_, re, by first | exact Kd.R_nil _ _ _ _ _ | exact Kd.N_nil _ _ _ _ _ | exact Kd.V_nil _ _ _ _ _ | exact Kd.Q_nil _ _ _ _ _ | exact Kd.S_nil _ _ _ _ _, bl⟩

/-! ### incunableref06_table: function 39 -/
def incunableref06_table.f (a0 : Int) : Option ((List (S87))) := if a0 = 0 then (some (([(⟨2, 2, 0, 0⟩ : S87), (⟨2, 3, 4, 0⟩ : S87), (⟨2, 4, 12, 0⟩ : S87), (⟨2, 6, 28, 0⟩ : S87)] : List (S87)))) else (some (([(⟨1, 1, 0, 0⟩ : S87), (⟨2, 1, 2, 0⟩ : S87), (⟨3, 2, 4, 0⟩ : S87), (⟨3, 6, 8, 0⟩ : S87)] : List (S87))))
set_option maxHeartbeats 8000000 in
set_option maxRecDepth 100000 in
theorem incunableref06_table.calls (a0 : Int) (r : List (S87)) (w : World) (h : incunableref06_table.f a0 = some r) :
  Calls Tryd.prog 39 #[.int .i64 a0] w fun e w' => ∃ v0_ : Value, e = .returned (v0_) ∧ Kd.R k87 87 w' w.heap.size (fun _ => True) v0_ r ∧ Below w.heap.size w w' := by
 have hu87 := Tryd.underlying87
 have HB := Aside0.mk (Below.refl w.heap.size w)
 have H : (if a0 = 0 then (some (([(⟨2, 2, 0, 0⟩ : S87), (⟨2, 3, 4, 0⟩ : S87), (⟨2, 4, 12, 0⟩ : S87), (⟨2, 6, 28, 0⟩ : S87)] : List (S87)))) else (some (([(⟨1, 1, 0, 0⟩ : S87), (⟨2, 1, 2, 0⟩ : S87), (⟨3, 2, 4, 0⟩ : S87), (⟨3, 6, 8, 0⟩ : S87)] : List (S87))))) = some r := h
 clear h
 by_cases c2 : a0 = 0
 ·rw [if_pos c2] at H
  have c2b0 := beq_iff_eq.mpr c2
  have c2b1 := bne_eq_false_iff_eq.mpr c2
  clear c2
  obtain ⟨y429, hy_⟩ : ∃ y_ : List (S87), y_ = (([(⟨2, 2, 0, 0⟩ : S87), (⟨2, 3, 4, 0⟩ : S87), (⟨2, 4, 12, 0⟩ : S87), (⟨2, 6, 28, 0⟩ : S87)] : List (S87))) := ⟨_, rfl⟩
  replace H : (some y429) = some r := rh
  have Ny429 := aE hy_
  clear hy_
  obtain rfl := Option.some.inj H
  go_enter Tryd.func39, Tryd.ntmps39
  go_wp2_with (first | ((with_reducible refine gd 9 rfl ?_); refine Kd.R_lit k87 _ 87 ?hg (N := 9) ?hd (xs := ([(⟨2, 2, 0, 0⟩ : S87), (⟨2, 3, 4, 0⟩ : S87), (⟨2, 4, 12, 0⟩ : S87), (⟨2, 6, 28, 0⟩ : S87)] : List (S87))) (inner := [.int .i64 2, .int .i64 2, .int .i64 0, .int .i64 0, .int .i64 2, .int .i64 3, .int .i64 4, .int .i64 0, .int .i64 2, .int .i64 4, .int .i64 12, .int .i64 0, .int .i64 2, .int .i64 6, .int .i64 28, .int .i64 0]) (ok := fun _ => True) (okp := fun _ => True) ?hr ?hp (fun _ hk => hk) trivial (Below.refl _ _) (Nat.le_refl _) (by simp) ?_; (case hd => rfl); (case hg => rfl); (case hr => first | (go_simp; done) | (go_simp; rfl)); (case hp => exact (Reps.c4 (show Kd.M k87 _ _ _ (⟨2, 2, 0, 0⟩ : S87) [.int .i64 2, .int .i64 2, .int .i64 0, .int .i64 0] from (k87_mkM _ _ _ (⟨2, 2, 0, 0⟩ : S87) )) (Reps.c4 (show Kd.M k87 _ _ _ (⟨2, 3, 4, 0⟩ : S87) [.int .i64 2, .int .i64 3, .int .i64 4, .int .i64 0] from (k87_mkM _ _ _ (⟨2, 3, 4, 0⟩ : S87) )) (Reps.c4 (show Kd.M k87 _ _ _ (⟨2, 4, 12, 0⟩ : S87) [.int .i64 2, .int .i64 4, .int .i64 12, .int .i64 0] from (k87_mkM _ _ _ (⟨2, 4, 12, 0⟩ : S87) )) (Reps.c4 (show Kd.M k87 _ _ _ (⟨2, 6, 28, 0⟩ : S87) [.int .i64 2, .int .i64 6, .int .i64 28, .int .i64 0] from (k87_mkM _ _ _ (⟨2, 6, 28, 0⟩ : S87) )) (Reps.none _ _)))))); intro v430 w3 ho4 hb hg_ hnew_; clear hg_ hnew_; (first | rw [← Ny429.out] at ho4 | (simp only [Int.reduceToNat] at ho4; rw [← Ny429.out] at ho4)); have n_ := aC (Kd.R_lower ho4 bz) (aE (bs hb)); clear HB; obtain ⟨HO431, HB⟩ := n_; clear hb ho4))
  go_ret
  exact ⟨_, re, rU HO431.out, bl⟩
 ·rw [if_neg c2] at H
  have c2b0 := beq_eq_false_iff_ne.mpr c2
  have c2b1 := bne_iff_ne.mpr c2
  obtain ⟨y432, hy_⟩ : ∃ y_ : List (S87), y_ = (([(⟨1, 1, 0, 0⟩ : S87), (⟨2, 1, 2, 0⟩ : S87), (⟨3, 2, 4, 0⟩ : S87), (⟨3, 6, 8, 0⟩ : S87)] : List (S87))) := ⟨_, rfl⟩
  replace H : (some y432) = some r := rh
  have Ny432 := aE hy_
  clear hy_
  obtain rfl := Option.some.inj H
  go_enter Tryd.func39, Tryd.ntmps39
  go_wp2_with (first | ((with_reducible refine gd 14 rfl ?_); refine Kd.R_lit k87 _ 87 ?hg (N := 14) ?hd (xs := ([(⟨1, 1, 0, 0⟩ : S87), (⟨2, 1, 2, 0⟩ : S87), (⟨3, 2, 4, 0⟩ : S87), (⟨3, 6, 8, 0⟩ : S87)] : List (S87))) (inner := [.int .i64 1, .int .i64 1, .int .i64 0, .int .i64 0, .int .i64 2, .int .i64 1, .int .i64 2, .int .i64 0, .int .i64 3, .int .i64 2, .int .i64 4, .int .i64 0, .int .i64 3, .int .i64 6, .int .i64 8, .int .i64 0]) (ok := fun _ => True) (okp := fun _ => True) ?hr ?hp (fun _ hk => hk) trivial (Below.refl _ _) (Nat.le_refl _) (by simp) ?_; (case hd => rfl); (case hg => rfl); (case hr => first | (go_simp; done) | (go_simp; rfl)); (case hp => exact (Reps.c4 (show Kd.M k87 _ _ _ (⟨1, 1, 0, 0⟩ : S87) [.int .i64 1, .int .i64 1, .int .i64 0, .int .i64 0] from (k87_mkM _ _ _ (⟨1, 1, 0, 0⟩ : S87) )) (Reps.c4 (show Kd.M k87 _ _ _ (⟨2, 1, 2, 0⟩ : S87) [.int .i64 2, .int .i64 1, .int .i64 2, .int .i64 0] from (k87_mkM _ _ _ (⟨2, 1, 2, 0⟩ : S87) )) (Reps.c4 (show Kd.M k87 _ _ _ (⟨3, 2, 4, 0⟩ : S87) [.int .i64 3, .int .i64 2, .int .i64 4, .int .i64 0] from (k87_mkM _ _ _ (⟨3, 2, 4, 0⟩ : S87) )) (Reps.c4 (show Kd.M k87 _ _ _ (⟨3, 6, 8, 0⟩ : S87) [.int .i64 3, .int .i64 6, .int .i64 8, .int .i64 0] from (k87_mkM _ _ _ (⟨3, 6, 8, 0⟩ : S87) )) (Reps.none _ _)))))); intro v433 w5 ho6 hb hg_ hnew_; clear hg_ hnew_; (first | rw [← Ny432.out] at ho6 | (simp only [Int.reduceToNat] at ho6; rw [← Ny432.out] at ho6)); have n_ := aC (Kd.R_lower ho6 bz) (aE (bs hb)); clear HB; obtain ⟨HO434, HB⟩ := n_; clear hb ho6))
  go_ret
  exact ⟨_, re, rU HO434.out, bl⟩

/-! ### incunableref06_RunBits: function 15 -/
def incunableref06_RunBits.f (k : Nat) (a0 : Int) (a1 : Int) : Option (List Int) := (incunableref04_Standard.f 0).bind fun t435 => ((incunableref04_Bits.f k t435 false (wrap64 (Int.tdiv a0 64))).bind fun bt438 => ((incunableref06_table.f a1).bind fun t442 => ((incunableref04_Bits.f k t442 false (Int.tmod a0 64)).bind fun bt445 => ((some (([] : List Int) : List Int)).bind fun y449 => (if y449.length + bt438.1.length < 140737488355328 then ((some (y449 ++ bt438.1 : List Int)).bind fun y452 => (if y452.length + bt445.1.length < 140737488355328 then (some (y452 ++ bt445.1)) else (none))) else (none))))))
theorem incunableref06_RunBits.mono : ∀ a0 a1 k, LeO (incunableref06_RunBits.f k a0 a1) (incunableref06_RunBits.f (k + 1) a0 a1) := by
 intro a0 a1 k
 unfold incunableref06_RunBits.f
 repeat' first
   | (with_reducible exact incunableref04_Bits.mono _ _ _ _)
   | (with_reducible first | exact LeO.refl _ | exact LeO.none _ | refine LeO.ite ?_ ?_ | refine LeO.bind ?_ (fun _ => ?_))
   | exact incunableref04_Bits.mono _ _ _ _
   | exact LeO.none _ | refine LeO.ite ?_ ?_ | refine LeO.bind ?_ (fun _ => ?_)
set_option maxHeartbeats 8000000 in
set_option maxRecDepth 100000 in
theorem incunableref06_RunBits.calls (k : Nat) (a0 : Int) (a1 : Int) (r : List Int) (w : World) (h : incunableref06_RunBits.f k a0 a1 = some r) :
  Calls Tryd.prog 15 #[.int .i64 a0, .int .i64 a1] w fun e w' => ∃ v0_ : Value, e = .returned (v0_) ∧ Kd.R (Kd.int .u8) 5 w' w.heap.size (fun _ => True) v0_ r ∧ Below w.heap.size w w' := by
 have hu64 := Tryd.underlying64
 have HB := Aside0.mk (Below.refl w.heap.size w)
 have H : ((incunableref04_Standard.f 0).bind fun t435 => ((incunableref04_Bits.f k t435 false (wrap64 (Int.tdiv a0 64))).bind fun bt438 => ((incunableref06_table.f a1).bind fun t442 => ((incunableref04_Bits.f k t442 false (Int.tmod a0 64)).bind fun bt445 => ((some (([] : List Int) : List Int)).bind fun y449 => (if y449.length + bt438.1.length < 140737488355328 then ((some (y449 ++ bt438.1 : List Int)).bind fun y452 => (if y452.length + bt445.1.length < 140737488355328 then (some (y452 ++ bt445.1)) else (none))) else (none))))))) = some r := h
 clear h
 replace H := Option.bind_eq_some_iff.mp H
 obtain ⟨t435, A30, H⟩ := H
 replace H : ((incunableref04_Bits.f k t435 false (wrap64 (Int.tdiv a0 64))).bind fun bt438 => ((incunableref06_table.f a1).bind fun t442 => ((incunableref04_Bits.f k t442 false (Int.tmod a0 64)).bind fun bt445 => ((some (([] : List Int) : List Int)).bind fun y449 => (if y449.length + bt438.1.length < 140737488355328 then ((some (y449 ++ bt438.1 : List Int)).bind fun y452 => (if y452.length + bt445.1.length < 140737488355328 then (some (y452 ++ bt445.1)) else (none))) else (none)))))) = some r := H
 have A3 := Aside0.mk A30
 clear A30
 replace H := Option.bind_eq_some_iff.mp H
 obtain ⟨⟨t438, t441⟩, A40, H⟩ := H
 replace H : ((incunableref06_table.f a1).bind fun t442 => ((incunableref04_Bits.f k t442 false (Int.tmod a0 64)).bind fun bt445 => ((some (([] : List Int) : List Int)).bind fun y449 => (if y449.length + t438.length < 140737488355328 then ((some (y449 ++ t438 : List Int)).bind fun y452 => (if y452.length + bt445.1.length < 140737488355328 then (some (y452 ++ bt445.1)) else (none))) else (none))))) = some r := H
 have A4 := Aside0.mk A40
 clear A40
 replace H := Option.bind_eq_some_iff.mp H
 obtain ⟨t442, A50, H⟩ := H
 replace H : ((incunableref04_Bits.f k t442 false (Int.tmod a0 64)).bind fun bt445 => ((some (([] : List Int) : List Int)).bind fun y449 => (if y449.length + t438.length < 140737488355328 then ((some (y449 ++ t438 : List Int)).bind fun y452 => (if y452.length + bt445.1.length < 140737488355328 then (some (y452 ++ bt445.1)) else (none))) else (none)))) = some r := H
 have A5 := Aside0.mk A50
 clear A50
 replace H := Option.bind_eq_some_iff.mp H
 obtain ⟨⟨t445, t448⟩, A60, H⟩ := H
 replace H : ((some (([] : List Int) : List Int)).bind fun y449 => (if y449.length + t438.length < 140737488355328 then ((some (y449 ++ t438 : List Int)).bind fun y452 => (if y452.length + t445.length < 140737488355328 then (some (y452 ++ t445)) else (none))) else (none))) = some r := H
 have A6 := Aside0.mk A60
 clear A60
 obtain ⟨y449, hy_⟩ : ∃ y_ : List Int, y_ = (([] : List Int)) := ⟨_, rfl⟩
 replace H : (if y449.length + t438.length < 140737488355328 then ((some (y449 ++ t438 : List Int)).bind fun y452 => (if y452.length + t445.length < 140737488355328 then (some (y452 ++ t445)) else (none))) else (none)) = some r := rh
 have Ny449 := aE hy_
 clear hy_
 by_cases c7 : y449.length + t438.length < 140737488355328
 ·rw [if_pos c7] at H
  have LMc7 := Aside0.mk c7
  clear c7
  obtain ⟨y452, hy_⟩ : ∃ y_ : List Int, y_ = (y449 ++ t438) := ⟨_, rfl⟩
  replace H : (if y452.length + t445.length < 140737488355328 then (some (y452 ++ t445)) else (none)) = some r := rh
  have Ny452 := aE hy_
  clear hy_
  by_cases c8 : y452.length + t445.length < 140737488355328
  ·rw [if_pos c8] at H
   have LMc8 := Aside0.mk c8
   clear c8
   obtain ⟨y455, hy_⟩ : ∃ y_ : List Int, y_ = (y452 ++ t445) := ⟨_, rfl⟩
   replace H : (some y455) = some r := rh
   have Ny455 := aE hy_
   clear hy_
   obtain rfl := Option.some.inj H
   go_enter Tryd.func15, Tryd.ntmps15
   go_wp2_with (first | ((with_reducible refine gf 38 rfl ?_); refine gL (some 10) rfl rfl Tryd.func38 rfl #[.int .i64 0] rfl ?_; (with_reducible refine (incunableref04_Standard.calls 0 t435 _ A3.out).mono ?_); rintro e w9 ⟨v436, rfl, ho0, hb⟩; refine ⟨_, rfl, ?_⟩; have n_ := aC (Kd.R_lower ho0 bz) (aE (bs hb)); clear HB; obtain ⟨HO437, HB⟩ := n_; (try clear hb); (try clear ho0); obtain ⟨Ao10, co10, eo10⟩ := Kd.R_slice HO437.out; subst eo10) | ((with_reducible refine gf 37 rfl ?_); refine gL (some 14) rfl rfl Tryd.func37 rfl #[.slice Ao10 t435.length co10, .agg #[.bool false, .int .i64 (wrap64 (Int.tdiv a0 64))]] rfl ?_; (with_reducible refine (incunableref04_Bits.calls k _ _ t435 false (wrap64 (Int.tdiv a0 64)) t438 t441 _ ?side1 ?side2 A4.out).mono ?_); (case side1 => exact cU (Kd.R_reads' HO437.out).2.2); (case side2 => exact (Kd.R_reads' HO437.out).2.1); rintro e w11 ⟨v439, rfl, ho0, hb⟩; refine ⟨_, rfl, ?_⟩; have n_ := aC (Kd.R_below (rU HO437.out) hb) (aC (Kd.R_lower ho0 bz) (aE (bs hb))); clear HO437 HB; obtain ⟨HO437, HO440, HB⟩ := n_; (try clear hb); (try clear ho0)) | ((with_reducible refine gf 39 rfl ?_); refine gL (some 19) rfl rfl Tryd.func39 rfl #[.int .i64 a1] rfl ?_; (with_reducible refine (incunableref06_table.calls a1 t442 _ A5.out).mono ?_); rintro e w12 ⟨v443, rfl, ho0, hb⟩; refine ⟨_, rfl, ?_⟩; have n_ := aC (Kd.R_elder' (rU HO437.out) (Kd.R_base ho0) hb) (aC (Kd.R_below (rU HO440.out) hb) (aC (Kd.R_lower (Kd.R_new' ho0 (Kd.R_lt (rU HO437.out))) bz) (aE (bs hb)))); clear HO437 HO440 HB; obtain ⟨HO437, HO440, HO444, HB⟩ := n_; (try clear hb); (try clear ho0); obtain ⟨Ao13, co13, eo13⟩ := Kd.R_slice HO444.out; subst eo13) | ((with_reducible refine gf 37 rfl ?_); refine gL (some 23) rfl rfl Tryd.func37 rfl #[.slice Ao13 t442.length co13, .agg #[.bool false, .int .i64 (Int.tmod a0 64)]] rfl ?_; (with_reducible refine (incunableref04_Bits.calls k _ _ t442 false (Int.tmod a0 64) t445 t448 _ ?side1 ?side2 A6.out).mono ?_); (case side1 => exact cU (Kd.R_reads' HO444.out).2.2); (case side2 => exact (Kd.R_reads' HO444.out).2.1); rintro e w14 ⟨v446, rfl, ho0, hb⟩; refine ⟨_, rfl, ?_⟩; have n_ := aC (Kd.R_below (rU HO437.out) hb) (aC (Kd.R_elder' (rU HO440.out) (Kd.R_base ho0) hb) (aC (Kd.R_below (rU HO444.out) hb) (aC (Kd.R_lower (Kd.R_new' ho0 (Kd.R_lt (rU HO440.out))) bz) (aE (bs hb))))); clear HO437 HO440 HO444 HB; obtain ⟨HO437, HO440, HO444, HO447, HB⟩ := n_; (try clear hb); (try clear ho0)) | ((with_reducible refine gd 26 rfl ?_); refine Kd.R_lit (Kd.int .u8) _ 5 ?hg (N := 26) ?hd (xs := ([] : List Int)) (inner := []) (ok := fun _ => True) (okp := fun _ => True) ?hr ?hp (fun _ hk => hk) trivial (Below.refl _ _) (Nat.le_refl _) (by simp) ?_; (case hd => rfl); (case hg => rfl); (case hr => first | (go_simp; done) | (go_simp; rfl)); (case hp => exact (Reps.none _ _)); intro v450 w15 ho16 hb hg_ hnew_; clear hg_ hnew_; (first | rw [← Ny449.out] at ho16 | (simp only [Int.reduceToNat] at ho16; rw [← Ny449.out] at ho16)); have n_ := aC (Kd.R_below (rU HO437.out) hb) (aC (Kd.R_elder' (rU HO440.out) (Kd.R_base ho16) hb) (aC (Kd.R_below (rU HO444.out) hb) (aC (Kd.R_elder' (rU HO447.out) (Kd.R_base ho16) hb) (aC (Kd.R_lower (Kd.R_new' (Kd.R_new' ho16 (Kd.R_lt (rU HO440.out))) (Kd.R_lt (rU HO447.out))) bz) (aE (bs hb)))))); clear HO437 HO440 HO444 HO447 HB; obtain ⟨HO437, HO440, HO444, HO447, HO451, HB⟩ := n_; clear hb ho16; obtain ⟨Ao18, co18, eo18⟩ := Kd.R_slice HO440.out; subst eo18) | ((with_reducible refine gate_builtin (b := .append) (xs := #[.tmp 26, .tmp 27]) rfl ?_); at_builtin; refine Kd.R_append_rows (Kd.int .u8) (w0 := w) w.heap.size rfl (.tmp 26) (.tmp 27) 22 5 (.int .u8 0) 1 rfl Tryd.underlying22 info5 rfl (by decide) (by omega) v450 y449 t438 _ _ _ (fun k_ => some k_ ≠ (.slice Ao18 t438.length co18 : Value).ownBlock ∧ some k_ ≠ (v446 : Value).ownBlock) (fun _ => False) rfl rfl ?aO ?aR (fun _ _ h => h) (fun _ h => h.elim) ?aF ?aB ?aS ?aL ?_; (case aR => repeat (first | exact (Kd.R_reads' HO440.out).2.2 | (with_reducible refine Kd.C_alloc ?_ _) | (with_reducible refine Kd.C_drewN ?_ _) | (with_reducible refine Kd.C_drew ?_))); (case aB => exact bl); (case aF => exact (fun k_ hk => ⟨Kd.fresh' (Kd.R_lt (rU HO440.out)) k_ hk, Kd.fresh' (Kd.R_lt (rU HO447.out)) k_ hk⟩)); (case aO => exact (rU (Kd.R_mono HO451.out (fun _ hk => ⟨hk.1.2, hk.2⟩)))); (case aS => exact bz); (case aL => have := LMc7.out; omega); intro v453 w17 ho hb hg hat; rw [← Ny452.out] at ho; have n_ := aC (Kd.R_over' (rU HO437.out) (Kd.R_typed (rU HO451.out)) (by decide) hg) (aC (Kd.R_after (ok := (fun k_ => some k_ ≠ (v446 : Value).ownBlock)) (rU (Kd.R_mono HO440.out (fun _ hk => ⟨hk.1.2, hk.2⟩))) hg hat) (aC (Kd.R_over' (rU HO444.out) (Kd.R_typed (rU HO451.out)) (by decide) hg) (aC (Kd.R_after (ok := (fun k_ => some k_ ≠ (.slice Ao18 t438.length co18 : Value).ownBlock)) (rU (Kd.R_mono HO447.out (fun _ hk => ⟨hk.1.2, hk.2⟩))) hg hat) (aC hb (aE ho))))); clear HO437 HO440 HO444 HO447 HB HO451; obtain ⟨HO437, HO440, HO444, HO447, HB, HO454⟩ := n_; clear ho hb hg hat; obtain ⟨Ao20, co20, eo20⟩ := Kd.R_slice HO447.out; subst eo20) | ((with_reducible refine gate_builtin (b := .append) (xs := #[.tmp 28, .tmp 29]) rfl ?_); at_builtin; refine Kd.R_append_rows (Kd.int .u8) (w0 := w) w.heap.size rfl (.tmp 28) (.tmp 29) 22 5 (.int .u8 0) 1 rfl Tryd.underlying22 info5 rfl (by decide) (by omega) v453 y452 t445 _ _ _ (fun k_ => some k_ ≠ (.slice Ao18 t438.length co18 : Value).ownBlock ∧ some k_ ≠ (.slice Ao20 t445.length co20 : Value).ownBlock) (fun _ => False) rfl rfl ?aO ?aR (fun _ _ h => h) (fun _ h => h.elim) ?aF ?aB ?aS ?aL ?_; (case aR => repeat (first | exact (Kd.R_reads' HO447.out).2.2 | (with_reducible refine Kd.C_alloc ?_ _) | (with_reducible refine Kd.C_drewN ?_ _) | (with_reducible refine Kd.C_drew ?_))); (case aB => exact bl); (case aF => exact (fun k_ hk => ⟨Kd.fresh' (Kd.R_lt (rU HO440.out)) k_ hk, Kd.fresh' (Kd.R_lt (rU HO447.out)) k_ hk⟩)); (case aO => exact (rU HO454.out)); (case aS => exact bz); (case aL => have := LMc8.out; omega); intro v456 w19 ho hb hg hat; rw [← Ny455.out] at ho; have n_ := aC (Kd.R_over' (rU HO437.out) (Kd.R_typed (rU HO454.out)) (by decide) hg) (aC (Kd.R_after (ok := (fun k_ => some k_ ≠ (.slice Ao20 t445.length co20 : Value).ownBlock)) (rU HO440.out) hg hat) (aC (Kd.R_over' (rU HO444.out) (Kd.R_typed (rU HO454.out)) (by decide) hg) (aC (Kd.R_after (ok := (fun k_ => some k_ ≠ (.slice Ao18 t438.length co18 : Value).ownBlock)) (rU HO447.out) hg hat) (aC hb (aE ho))))); clear HO437 HO440 HO444 HO447 HB HO454; obtain ⟨HO437, HO440, HO444, HO447, HB, HO457⟩ := n_; clear ho hb hg hat))
   go_ret
   exact ⟨_, re, rU (Kd.R_mono HO457.out (fun _ hk => trivial)), bl⟩
  ·rw [if_neg c8] at H
   exact absurd H (by simp)
 ·rw [if_neg c7] at H
  exact absurd H (by simp)

/-! ### incunableref06_Row: function 23 -/
mutual
def incunableref06_Row.l0 : Nat → List Int → List Int → Int → Int → Option (List Int)
 | 0, _, _, _, _ => none
 | k + 1, x0, x3, x4, x5 => if x5 < (x0.length : Int) then (incunableref06_Row.l1 k x0 x3 x4 x5 0) else (some x3)
def incunableref06_Row.l1 : Nat → List Int → List Int → Int → Int → Int → Option (List Int)
 | 0, _, _, _, _, _ => none
 | k + 1, x0, x3, x4, x5, x6 => if (wrap64 (x5 + x6)) < (x0.length : Int) then (if 0 ≤ (wrap64 (x5 + x6)) then (if (rd x0 (wrap64 (x5 + x6))) = x4 then (incunableref06_Row.l1 k x0 x3 x4 x5 (wrap64 (x6 + 1))) else (if x3.length < 17592186044416 then (incunableref06_Row.l0 k x0 (x3 ++ [x6]) ((1 - x4) % 256) (wrap64 (x5 + x6))) else (none))) else (none)) else (if x3.length < 17592186044416 then (incunableref06_Row.l0 k x0 (x3 ++ [x6]) ((1 - x4) % 256) (wrap64 (x5 + x6))) else (none))
end
def incunableref06_Row.f (k : Nat) (l0 : List Int) : Option (List Int) := incunableref06_Row.l0 k l0 ([] : List Int) 0 0
theorem incunableref06_Row.mono_l : ∀ k, (∀ y0 y1 y2 y3, LeO (incunableref06_Row.l0 k y0 y1 y2 y3) (incunableref06_Row.l0 (k + 1) y0 y1 y2 y3)) ∧ (∀ y0 y1 y2 y3 y4, LeO (incunableref06_Row.l1 k y0 y1 y2 y3 y4) (incunableref06_Row.l1 (k + 1) y0 y1 y2 y3 y4))
 | 0 => ⟨fun _ _ _ _ r h => by simp [incunableref06_Row.l0] at h, fun _ _ _ _ _ r h => by simp [incunableref06_Row.l1] at h⟩
 | k + 1 => by
  obtain ⟨ih0, ih1⟩ := incunableref06_Row.mono_l k
  refine ⟨?_, ?_⟩
  ·intro y0 y1 y2 y3
   unfold incunableref06_Row.l0
   repeat' first
   | (with_reducible exact ih0 _ _ _ _)
   | (with_reducible exact ih1 _ _ _ _ _)
   | (with_reducible first | exact LeO.refl _ | exact LeO.none _ | refine LeO.ite ?_ ?_ | refine LeO.bind ?_ (fun _ => ?_))
   | exact ih0 _ _ _ _
   | exact ih1 _ _ _ _ _
   | exact LeO.none _ | refine LeO.ite ?_ ?_ | refine LeO.bind ?_ (fun _ => ?_)
  ·intro y0 y1 y2 y3 y4
   unfold incunableref06_Row.l1
   repeat' first
   | (with_reducible exact ih0 _ _ _ _)
   | (with_reducible exact ih1 _ _ _ _ _)
   | (with_reducible first | exact LeO.refl _ | exact LeO.none _ | refine LeO.ite ?_ ?_ | refine LeO.bind ?_ (fun _ => ?_))
   | exact ih0 _ _ _ _
   | exact ih1 _ _ _ _ _
   | exact LeO.none _ | refine LeO.ite ?_ ?_ | refine LeO.bind ?_ (fun _ => ?_)
theorem incunableref06_Row.mono : ∀ a0 k, LeO (incunableref06_Row.f k a0) (incunableref06_Row.f (k + 1) a0) := by
 intro a0 k
 obtain ⟨ih0, ih1⟩ := incunableref06_Row.mono_l k
 unfold incunableref06_Row.f
 repeat' first
   | (with_reducible exact ih0 _ _ _ _)
   | (with_reducible exact ih1 _ _ _ _ _)
   | (with_reducible first | exact LeO.refl _ | exact LeO.none _ | refine LeO.ite ?_ ?_ | refine LeO.bind ?_ (fun _ => ?_))
   | exact ih0 _ _ _ _
   | exact ih1 _ _ _ _ _
   | exact LeO.none _ | refine LeO.ite ?_ ?_ | refine LeO.bind ?_ (fun _ => ?_)
set_option maxHeartbeats 8000000 in
set_option maxRecDepth 100000 in
theorem incunableref06_Row.calls (k : Nat) (A0 : Option Addr) (c0 : Nat) (l0 : List Int) (r : List Int) (w : World) (hr0 : Kd.C (Kd.int .u8) w A0 l0.length l0) (hc0 : l0.length ≤ c0) (h : incunableref06_Row.f k l0 = some r) :
  Calls Tryd.prog 23 #[.slice A0 l0.length c0] w fun e w' => ∃ v0_ : Value, e = .returned (v0_) ∧ Kd.R (Kd.int .i64) 3 w' w.heap.size (fun _ => True) v0_ r ∧ Below w.heap.size w w' := by
 have HR0 := Aside0.mk hr0
 have HC0 := Aside0.mk hc0
 clear hr0 hc0
 have HB := Aside0.mk (Below.refl w.heap.size w)
 have H : (incunableref06_Row.l0 k l0 ([] : List Int) 0 0) = some r := h
 clear h
 have H' := Aside0.mk H
 clear H
 go_enter Tryd.func23, Tryd.ntmps23
 go_wp2
 go_loopg [3, 4, 5] k (fun kq v3 v4 v5 w' => ∃ (x3_1 : List Int) (x4_1 : Int) (x5_1 : Int), v4 = .int .u8 x4_1 ∧ v5 = .int .i64 x5_1 ∧ Aside0 (incunableref06_Row.l0 kq l0 x3_1 x4_1 x5_1 = some r) ∧ Aside0 (kq ≤ k) ∧ Aside0 (Kd.R (Kd.int .i64) 3 w' w.heap.size (fun _ => True) v3 x3_1) ∧ Aside0 (Below w.heap.size w w'))
 case atStart => exact ⟨(([] : List Int)), (0), (0), rq, rq, H', ⟨Nat.le_refl _⟩, ⟨by first | exact Kd.R_nil _ _ _ _ _ | exact Kd.N_nil _ _ _ _ _ | exact Kd.V_nil _ _ _ _ _ | exact Kd.Q_nil _ _ _ _ _ | exact Kd.S_nil _ _ _ _ _⟩, ⟨bl⟩⟩
 case round =>
  clear H'
  obtain ⟨x3_1, x4_1, x5_1, rfl, rfl, HA, HK1, HO_3, HB⟩ := hrel
  cases gk with
  | zero => exact absurd HA.out (by simp [incunableref06_Row.l0])
  | succ k1 =>
   have H := HA.out
   clear HA
   simp only [incunableref06_Row.l0] at H
   by_cases c2 : x5_1 < (l0.length : Int)
   ·rw [if_pos c2] at H
    have c2b0 := decide_eq_true c2
    clear c2
    have H' := Aside0.mk H
    clear H
    go_wp2
    go_loopg [6] k1 (fun kq v6 w' => ∃ (x6_2 : Int), v6 = .int .i64 x6_2 ∧ Aside0 (incunableref06_Row.l1 kq l0 x3_1 x4_1 x5_1 x6_2 = some r) ∧ Aside0 (kq ≤ k1) ∧ Aside0 (Kd.R (Kd.int .i64) 3 w' w.heap.size (fun _ => True) u3 x3_1) ∧ Aside0 (Below w.heap.size w w'))
    case atStart => exact ⟨(0), rq, H', ⟨Nat.le_refl _⟩, ⟨rU HO_3.out⟩, ⟨bl⟩⟩
    case round =>
     clear H'
     obtain ⟨x6_2, rfl, HA, HK2, HO_3, HB⟩ := hrel
     cases gk with
     | zero => exact absurd HA.out (by simp [incunableref06_Row.l1])
     | succ k2 =>
      have H := HA.out
      clear HA
      simp only [incunableref06_Row.l1] at H
      by_cases c3 : (wrap64 (x5_1 + x6_2)) < (l0.length : Int)
      ·rw [if_pos c3] at H
       have c3b0 := decide_eq_true c3
       clear c3
       obtain ⟨ji4, hji4⟩ : ∃ j_ : Int, (wrap64 (x5_1 + x6_2)) = j_ := ⟨_, rfl⟩
       replace H : (if 0 ≤ (ji4) then (if (rd l0 (ji4)) = x4_1 then (incunableref06_Row.l1 k2 l0 x3_1 x4_1 x5_1 (wrap64 (x6_2 + 1))) else (if x3_1.length < 17592186044416 then (incunableref06_Row.l0 k2 l0 (x3_1 ++ [x6_2]) ((1 - x4_1) % 256) ji4) else (none))) else (none)) = some r := by first | (rw [hji4] at H; exact H) | (simp only [hji4] at H ⊢; exact H)
       (try rw [hji4] at c3b0)
       have hji4w : (IntKind.i64.wrap (x5_1 + x6_2)) = ji4 := (i64_w _).trans hji4
       by_cases c5 : 0 ≤ (ji4)
       ·rw [if_pos c5] at H
        have c5b0 := decide_eq_true c5
        clear c5
        by_cases c6 : (rd l0 (ji4)) = x4_1
        ·rw [if_pos c6] at H
         have c6b0 := beq_iff_eq.mpr c6
         have c6b1 := bne_eq_false_iff_eq.mpr c6
         clear c6
         have H' := Aside0.mk H
         clear H
         have p458 : 0 ≤ ((ji4) : Int) := dt
         have q458 : (ji4) < (l0.length : Int) := dt
         obtain ⟨ad458, e458, hx458_0⟩ := Kd.at_int HR0.out (ji4) p458 q458
         cases e458
         replace hx458_0 := hcB HB.out hx458_0
         replace p458 := eq_true p458
         replace q458 := eq_true q458
         go_wp2
         go_roundg k2
         case measure => have := HK1.out; have := HK2.out; omega
         case rel => exact ⟨(wrap64 (x6_2 + 1)), rq, H', ⟨by have := HK1.out; have := HK2.out; omega⟩, ⟨rU HO_3.out⟩, ⟨bl⟩⟩
        ·rw [if_neg c6] at H
         have c6b0 := beq_eq_false_iff_ne.mpr c6
         have c6b1 := bne_iff_ne.mpr c6
         by_cases c7 : x3_1.length < 17592186044416
         ·rw [if_pos c7] at H
          have LMc7 := Aside0.mk c7
          clear c7
          obtain ⟨y459, hy_⟩ : ∃ y_ : List Int, y_ = (x3_1 ++ [x6_2]) := ⟨_, rfl⟩
          replace H : (incunableref06_Row.l0 k2 l0 y459 ((1 - x4_1) % 256) ji4) = some r := rh
          have Ny459 := aE hy_
          clear hy_
          have H' := Aside0.mk H
          clear H
          have p458 : 0 ≤ ((ji4) : Int) := dt
          have q458 : (ji4) < (l0.length : Int) := dt
          obtain ⟨ad458, e458, hx458_0⟩ := Kd.at_int HR0.out (ji4) p458 q458
          cases e458
          replace hx458_0 := hcB HB.out hx458_0
          replace p458 := eq_true p458
          replace q458 := eq_true q458
          go_wp2_with (first | ((with_reducible refine gate_builtin (b := .append) (xs := #[.tmp 29, .tmp 31]) rfl ?_); at_builtin; refine Kd.R_append (Kd.int .i64) (w0 := w) w.heap.size rfl (.tmp 29) (.tmp 31) 38 3 (.int .i64 0) 8 rfl Tryd.underlying38 info3 rfl (by decide) (by omega) u3 x3_1 x6_2 [.int .i64 x6_2] (fun _ => True) (fun _ => False) rfl rfl ?aP (fun _ hk => hk.elim) ?aF ?aO ?aB ?aS ?aL ?_; (case aP => exact rfl); (case aB => exact bl); (case aF => exact (fun _ _ => trivial)); (case aO => exact (rU HO_3.out)); (case aS => exact bz); (case aL => have := LMc7.out; omega); intro v460 w8 ho hb hg hat; rw [← Ny459.out] at ho; have n_ := aC hb (aE ho); clear HB HO_3; obtain ⟨HB, HO461⟩ := n_; clear ho hb hg hat))
          go_roundg k2
          case measure => have := HK1.out; have := HK2.out; omega
          case rel => exact ⟨(y459), ((1 - x4_1) % 256), (ji4), rq, (by first | rfl | (simp; done) | (simp only [← hji4] <;> (first | rfl | simp)) | (simp [*]; done)), H', ⟨by have := HK1.out; have := HK2.out; omega⟩, ⟨rU HO461.out⟩, ⟨bl⟩⟩
         ·rw [if_neg c7] at H
          exact absurd H (by simp)
       ·rw [if_neg c5] at H
        exact absurd H (by simp)
      ·rw [if_neg c3] at H
       have c3b0 := decide_eq_false c3
       clear c3
       by_cases c9 : x3_1.length < 17592186044416
       ·rw [if_pos c9] at H
        have LMc9 := Aside0.mk c9
        clear c9
        obtain ⟨y462, hy_⟩ : ∃ y_ : List Int, y_ = (x3_1 ++ [x6_2]) := ⟨_, rfl⟩
        replace H : (incunableref06_Row.l0 k2 l0 y462 ((1 - x4_1) % 256) (wrap64 (x5_1 + x6_2))) = some r := rh
        have Ny462 := aE hy_
        clear hy_
        have H' := Aside0.mk H
        clear H
        go_wp2_with (first | ((with_reducible refine gate_builtin (b := .append) (xs := #[.tmp 29, .tmp 31]) rfl ?_); at_builtin; refine Kd.R_append (Kd.int .i64) (w0 := w) w.heap.size rfl (.tmp 29) (.tmp 31) 38 3 (.int .i64 0) 8 rfl Tryd.underlying38 info3 rfl (by decide) (by omega) u3 x3_1 x6_2 [.int .i64 x6_2] (fun _ => True) (fun _ => False) rfl rfl ?aP (fun _ hk => hk.elim) ?aF ?aO ?aB ?aS ?aL ?_; (case aP => exact rfl); (case aB => exact bl); (case aF => exact (fun _ _ => trivial)); (case aO => exact (rU HO_3.out)); (case aS => exact bz); (case aL => have := LMc9.out; omega); intro v463 w10 ho hb hg hat; rw [← Ny462.out] at ho; have n_ := aC hb (aE ho); clear HB HO_3; obtain ⟨HB, HO464⟩ := n_; clear ho hb hg hat))
        go_roundg k2
        case measure => have := HK1.out; have := HK2.out; omega
        case rel => exact ⟨(y462), ((1 - x4_1) % 256), (wrap64 (x5_1 + x6_2)), rq, rq, H', ⟨by have := HK1.out; have := HK2.out; omega⟩, ⟨rU HO464.out⟩, ⟨bl⟩⟩
       ·rw [if_neg c9] at H
        exact absurd H (by simp)
   ·rw [if_neg c2] at H
    have c2b0 := decide_eq_false c2
    clear c2
    obtain rfl := Option.some.inj H
    go_wp2
    go_ret
    exact ⟨_, re, rU HO_3.out, bl⟩

/-! ### incunableref06_RowOf: function 52 -/
def incunableref06_RowOf.f (a0_0 : Int) (a0_1 : Int) (l0_2 : List Int) (a1 : Int) : Option (List Int) := if a1 < 0 then (if 0 ≤ a0_0 then (if (a0_0 : Int).toNat ≤ 281474976710656 then (some (List.replicate (a0_0 : Int).toNat 0)) else (none)) else (none)) else ((some (([] : List Int) : List Int)).bind fun y469 => (if 0 ≤ (wrap64 (a1 * a0_0)) then (if (wrap64 (a1 * a0_0)) ≤ (wrap64 ((wrap64 (a1 + 1)) * a0_0)) then (if (wrap64 ((wrap64 (a1 + 1)) * a0_0)) ≤ (l0_2.length : Int) then (if y469.length + ((l0_2.take ((wrap64 ((wrap64 (a1 + 1)) * a0_0)) : Int).toNat).drop ((wrap64 (a1 * a0_0)) : Int).toNat).length < 140737488355328 then (some (y469 ++ ((l0_2.take ((wrap64 ((wrap64 (a1 + 1)) * a0_0)) : Int).toNat).drop ((wrap64 (a1 * a0_0)) : Int).toNat))) else (none)) else (none)) else (none)) else (none)))
set_option maxHeartbeats 8000000 in
set_option maxRecDepth 100000 in
theorem incunableref06_RowOf.calls (a0_0 : Int) (a0_1 : Int) (A0_2 : Option Addr) (c0_2 : Nat) (l0_2 : List Int) (a1 : Int) (r : List Int) (w : World) (hr0_2 : Kd.C (Kd.int .u8) w A0_2 l0_2.length l0_2) (hc0_2 : l0_2.length ≤ c0_2) (h : incunableref06_RowOf.f a0_0 a0_1 l0_2 a1 = some r) :
  Calls Tryd.prog 52 #[.agg #[.int .i64 a0_0, .int .i64 a0_1, .slice A0_2 l0_2.length c0_2], .int .i64 a1] w fun e w' => ∃ v0_ : Value, e = .returned (v0_) ∧ Kd.R (Kd.int .u8) 5 w' w.heap.size (fun _ => True) v0_ r ∧ Below w.heap.size w w' := by
 have hu48 := Tryd.underlying48
 have HR0_2 := Aside0.mk hr0_2
 have HC0_2 := Aside0.mk hc0_2
 clear hr0_2 hc0_2
 have HB := Aside0.mk (Below.refl w.heap.size w)
 have H : (if a1 < 0 then (if 0 ≤ a0_0 then (if (a0_0 : Int).toNat ≤ 281474976710656 then (some (List.replicate (a0_0 : Int).toNat 0)) else (none)) else (none)) else ((some (([] : List Int) : List Int)).bind fun y469 => (if 0 ≤ (wrap64 (a1 * a0_0)) then (if (wrap64 (a1 * a0_0)) ≤ (wrap64 ((wrap64 (a1 + 1)) * a0_0)) then (if (wrap64 ((wrap64 (a1 + 1)) * a0_0)) ≤ (l0_2.length : Int) then (if y469.length + ((l0_2.take ((wrap64 ((wrap64 (a1 + 1)) * a0_0)) : Int).toNat).drop ((wrap64 (a1 * a0_0)) : Int).toNat).length < 140737488355328 then (some (y469 ++ ((l0_2.take ((wrap64 ((wrap64 (a1 + 1)) * a0_0)) : Int).toNat).drop ((wrap64 (a1 * a0_0)) : Int).toNat))) else (none)) else (none)) else (none)) else (none)))) = some r := h
 clear h
 by_cases c3 : a1 < 0
 ·rw [if_pos c3] at H
  have c3b0 := decide_eq_true c3
  clear c3
  by_cases c4 : 0 ≤ a0_0
  ·rw [if_pos c4] at H
   have c4b0 := eq_true c4
   have c4b1 := decide_eq_true c4
   clear c4
   by_cases c5 : (a0_0 : Int).toNat ≤ 281474976710656
   ·rw [if_pos c5] at H
    have c5b0 := eq_true c5
    have c5b1 := decide_eq_true c5
    clear c5
    obtain ⟨y466, hy_⟩ : ∃ y_ : List Int, y_ = (List.replicate (a0_0 : Int).toNat 0) := ⟨_, rfl⟩
    replace H : (some y466) = some r := rh
    have Ny466 := aE hy_
    clear hy_
    obtain rfl := Option.some.inj H
    go_enter Tryd.func52, Tryd.ntmps52
    go_wp2_with (first | ((with_reducible refine gd 2 rfl ?_); refine bx 2 #[.int .i64 a0_0, .int .i64 a0_1, .slice A0_2 l0_2.length c0_2] 48 rfl rfl ?_; intro gb465 hg w6 hbox hb; have n_ := aC (bs hb) (aC hbox (aC (gz hg) (aE (gz hg)))); clear HB; obtain ⟨HB, BK465, GW465, GE465⟩ := n_; clear hb hbox hg; obtain ⟨hcz7_0, hcz7_1, hcz7_2, hfz7_0, hfz7_1, hfz7_2⟩ := cz3f BK465.out) | ((with_reducible refine gd 9 rfl ?_); refine Kd.R_make (Kd.int .u8) _ 5 rfl (N := 9) rfl 22 _ _ rfl a0_0 rfl rfl Tryd.underlying22 (.int .u8 0) 1 info5 rfl (by decide) (by omega) 0 (ok := fun _ => True) (okp := fun _ => True) rfl (fun _ hk => hk) trivial (dt) (Nat.le_trans (Nat.mul_le_mul_right _ (dt : a0_0.toNat ≤ 281474976710656)) (by omega)) (Below.refl _ _) (Nat.le_refl _) ?_; intro v467 w8 ho9 hb hg_ hnew_; clear hg_ hnew_; (first | rw [← Ny466.out] at ho9 | (simp only [Int.reduceToNat] at ho9; rw [← Ny466.out] at ho9)); have n_ := aC (Kd.R_lower ho9 bz) (aC (blk_below (bU BK465.out) hb) (aE (bs hb))); clear BK465 HB; obtain ⟨HO468, BK465, HB⟩ := n_; clear hb ho9))
    go_ret
    exact ⟨_, re, rU HO468.out, bl⟩
   ·rw [if_neg c5] at H
    exact absurd H (by simp)
  ·rw [if_neg c4] at H
   exact absurd H (by simp)
 ·rw [if_neg c3] at H
  have c3b0 := decide_eq_false c3
  clear c3
  obtain ⟨y469, hy_⟩ : ∃ y_ : List Int, y_ = (([] : List Int)) := ⟨_, rfl⟩
  replace H : (if 0 ≤ (wrap64 (a1 * a0_0)) then (if (wrap64 (a1 * a0_0)) ≤ (wrap64 ((wrap64 (a1 + 1)) * a0_0)) then (if (wrap64 ((wrap64 (a1 + 1)) * a0_0)) ≤ (l0_2.length : Int) then (if y469.length + ((l0_2.take ((wrap64 ((wrap64 (a1 + 1)) * a0_0)) : Int).toNat).drop ((wrap64 (a1 * a0_0)) : Int).toNat).length < 140737488355328 then (some (y469 ++ ((l0_2.take ((wrap64 ((wrap64 (a1 + 1)) * a0_0)) : Int).toNat).drop ((wrap64 (a1 * a0_0)) : Int).toNat))) else (none)) else (none)) else (none)) else (none)) = some r := rh
  have Ny469 := aE hy_
  clear hy_
  obtain ⟨ji10, hji10⟩ : ∃ j_ : Int, (wrap64 (a1 * a0_0)) = j_ := ⟨_, rfl⟩
  replace H : (if 0 ≤ (ji10) then (if (ji10) ≤ (wrap64 ((wrap64 (a1 + 1)) * a0_0)) then (if (wrap64 ((wrap64 (a1 + 1)) * a0_0)) ≤ (l0_2.length : Int) then (if y469.length + ((l0_2.take ((wrap64 ((wrap64 (a1 + 1)) * a0_0)) : Int).toNat).drop ((ji10) : Int).toNat).length < 140737488355328 then (some (y469 ++ ((l0_2.take ((wrap64 ((wrap64 (a1 + 1)) * a0_0)) : Int).toNat).drop ((ji10) : Int).toNat))) else (none)) else (none)) else (none)) else (none)) = some r := by first | (rw [hji10] at H; exact H) | (simp only [hji10] at H ⊢; exact H)
  have hji10w : (IntKind.i64.wrap (a1 * a0_0)) = ji10 := (i64_w _).trans hji10
  by_cases c11 : 0 ≤ (ji10)
  ·rw [if_pos c11] at H
   have c11b0 := eq_true c11
   have c11b1 := decide_eq_true c11
   clear c11
   by_cases c12 : (ji10) ≤ (wrap64 ((wrap64 (a1 + 1)) * a0_0))
   ·rw [if_pos c12] at H
    have c12b0 := eq_true c12
    have c12b1 := decide_eq_true c12
    by_cases c13 : (wrap64 ((wrap64 (a1 + 1)) * a0_0)) ≤ (l0_2.length : Int)
    ·rw [if_pos c13] at H
     have c13b0 := eq_true c13
     have c13b1 := decide_eq_true c13
     by_cases c14 : y469.length + ((l0_2.take ((wrap64 ((wrap64 (a1 + 1)) * a0_0)) : Int).toNat).drop ((ji10) : Int).toNat).length < 140737488355328
     ·rw [if_pos c14] at H
      have LMc14 := Aside0.mk c14
      clear c14
      obtain ⟨y473, hy_⟩ : ∃ y_ : List Int, y_ = (y469 ++ ((l0_2.take ((wrap64 ((wrap64 (a1 + 1)) * a0_0)) : Int).toNat).drop ((ji10) : Int).toNat)) := ⟨_, rfl⟩
      replace H : (some y473) = some r := rh
      have Ny473 := aE hy_
      clear hy_
      obtain rfl := Option.some.inj H
      go_enter Tryd.func52, Tryd.ntmps52
      go_wp2_with (first | ((with_reducible refine gd 2 rfl ?_); refine bx 2 #[.int .i64 a0_0, .int .i64 a0_1, .slice A0_2 l0_2.length c0_2] 48 rfl rfl ?_; intro gb465 hg w15 hbox hb; have n_ := aC (bs hb) (aC hbox (aC (gz hg) (aE (gz hg)))); clear HB; obtain ⟨HB, BK465, GW465, GE465⟩ := n_; clear hb hbox hg) | ((with_reducible refine gd 10 rfl ?_); refine Kd.R_lit (Kd.int .u8) _ 5 ?hg (N := 10) ?hd (xs := ([] : List Int)) (inner := []) (ok := fun _ => True) (okp := fun _ => True) ?hr ?hp (fun _ hk => hk) trivial (Below.refl _ _) (Nat.le_refl _) (by simp) ?_; (case hd => rfl); (case hg => rfl); (case hr => first | (go_simp; done) | (go_simp; rfl)); (case hp => exact (Reps.none _ _)); intro v470 w16 ho17 hb hg_ hnew_; clear hg_ hnew_; (first | rw [← Ny469.out] at ho17 | (simp only [Int.reduceToNat] at ho17; rw [← Ny469.out] at ho17)); have n_ := aC (Kd.R_lower ho17 bz) (aC (blk_below (bU BK465.out) hb) (aE (bs hb))); clear BK465 HB; obtain ⟨HO471, BK465, HB⟩ := n_; clear hb ho17; obtain ⟨hcz18_0, hcz18_1, hcz18_2, hfz18_0, hfz18_1, hfz18_2⟩ := cz3f BK465.out; obtain ⟨i019, hi019, _, hsz19, _⟩ := info_parts info5; obtain ⟨A19, hcut19, hA19, hC19⟩ := print_mid_of (P := Tryd.prog) (Value.int .u8) 0 22 5 .i64 .i64 Tryd.underlying22 hi019 hsz19 A0_2 c0_2 l0_2 (ji10) (wrap64 ((wrap64 (a1 + 1)) * a0_0)) (dt) (by first | omega | exact dt) (dt) HC0_2.out; have HR472 := Aside0.mk (Kd.C_of_reads (h1 := fun _ => rfl) (hA19 _ (Kd.reads_of_C HR0_2.out))); have HC472 := Aside0.mk hC19; clear hA19 hC19 hi019 hsz19) | ((with_reducible refine gate_builtin (b := .append) (xs := #[.tmp 10, .tmp 22]) rfl ?_); at_builtin; refine Kd.R_append_rows (Kd.int .u8) (w0 := w) w.heap.size rfl (.tmp 10) (.tmp 22) 22 5 (.int .u8 0) 1 rfl Tryd.underlying22 info5 rfl (by decide) (by omega) v470 y469 ((l0_2.take ((wrap64 ((wrap64 (a1 + 1)) * a0_0)) : Int).toNat).drop ((ji10) : Int).toNat) _ _ _ (fun _ => True) (fun _ => False) rfl rfl ?aO ?aR (fun _ _ h => h) (fun _ h => h.elim) ?aF ?aB ?aS ?aL ?_; (case aR => first | (rw [← show ((l0_2.take ((wrap64 ((wrap64 (a1 + 1)) * a0_0)) : Int).toNat).drop ((ji10) : Int).toNat).length = ((wrap64 ((wrap64 (a1 + 1)) * a0_0)).toNat - (ji10).toNat) from (by rw [List.length_drop, List.length_take]; have h_ : ((wrap64 ((wrap64 (a1 + 1)) * a0_0)) : Int) ≤ (l0_2.length : Int) := dt; omega)]; repeat (first | exact (Kd.C_below HR472.out HB.out) | (with_reducible refine Kd.C_alloc ?_ _) | (with_reducible refine Kd.C_drewN ?_ _) | (with_reducible refine Kd.C_drew ?_))) | (repeat (first | exact (Kd.C_below HR472.out HB.out) | (with_reducible refine Kd.C_alloc ?_ _) | (with_reducible refine Kd.C_drewN ?_ _) | (with_reducible refine Kd.C_drew ?_)))); (case aB => exact bl); (case aF => exact (fun _ _ => trivial)); (case aO => exact (rU HO471.out)); (case aS => exact bz); (case aL => have := LMc14.out; have hlx_ := (show ((l0_2.take ((wrap64 ((wrap64 (a1 + 1)) * a0_0)) : Int).toNat).drop ((ji10) : Int).toNat).length = ((wrap64 ((wrap64 (a1 + 1)) * a0_0)).toNat - (ji10).toNat) from (by rw [List.length_drop, List.length_take]; have h_ : ((wrap64 ((wrap64 (a1 + 1)) * a0_0)) : Int) ≤ (l0_2.length : Int) := dt; omega)); omega); intro v474 w20 ho hb hg hat; rw [← Ny473.out] at ho; have n_ := aC (blk_grown (bU BK465.out) hg (Kd.R_ne HO471.out BK465.out (by decide))) (aC hb (aE ho)); clear BK465 HB HO471; obtain ⟨BK465, HB, HO475⟩ := n_; clear ho hb hg hat))
      go_ret
      exact ⟨_, by first | rfl | (simp [errW_none, errW_some] <;> rfl) | (simp only [← hji10]; first | rfl | (simp [errW_none, errW_some] <;> rfl)) | (simp [*, errW_none, errW_some] <;> rfl), rU HO475.out, bl⟩
     ·rw [if_neg c14] at H
      exact absurd H (by simp)
    ·rw [if_neg c13] at H
     exact absurd H (by simp)
   ·rw [if_neg c12] at H
    exact absurd H (by simp)
  ·rw [if_neg c11] at H
   exact absurd H (by simp)

/-! ### incunableref06_OneBits: function 28 -/
mutual
def incunableref06_OneBits.l0 : Nat → List Int → Int → Int → Int → List Int → Option (List Int)
 | 0, _, _, _, _, _ => none
 | k + 1, x3, x4, x477000, x477001, x477002 => if x4 < x477001 then ((incunableref06_RowOf.f x477000 x477001 x477002 x4).bind fun t477 => ((incunableref06_Row.f k t477).bind fun t480 => (incunableref06_OneBits.l1 k x3 x4 t480 (t480.length : Int) 0 x477000 x477001 x477002))) else (some x3)
def incunableref06_OneBits.l1 : Nat → List Int → Int → List Int → Int → Int → Int → Int → List Int → Option (List Int)
 | 0, _, _, _, _, _, _, _, _ => none
 | k + 1, x3, x4, x16, x17, x18, x477000, x477001, x477002 => if x18 < x17 then (if 0 ≤ x18 then (if x18 < (x16.length : Int) then ((incunableref06_RunBits.f k (rd x16 x18) (Int.tmod x18 2)).bind fun t484 => (if x3.length + t484.length < 140737488355328 then (incunableref06_OneBits.l1 k (x3 ++ t484) x4 x16 x17 (wrap64 (x18 + 1)) x477000 x477001 x477002) else (none))) else (none)) else (none)) else (incunableref06_OneBits.l0 k x3 (wrap64 (x4 + 1)) x477000 x477001 x477002)
end
def incunableref06_OneBits.f (k : Nat) (a0_0 : Int) (a0_1 : Int) (l0_2 : List Int) : Option (List Int) := incunableref06_OneBits.l0 k ([] : List Int) 0 a0_0 a0_1 l0_2
theorem incunableref06_OneBits.mono_l : ∀ k, (∀ y0 y1 y2 y3 y4, LeO (incunableref06_OneBits.l0 k y0 y1 y2 y3 y4) (incunableref06_OneBits.l0 (k + 1) y0 y1 y2 y3 y4)) ∧ (∀ y0 y1 y2 y3 y4 y5 y6 y7, LeO (incunableref06_OneBits.l1 k y0 y1 y2 y3 y4 y5 y6 y7) (incunableref06_OneBits.l1 (k + 1) y0 y1 y2 y3 y4 y5 y6 y7))
 | 0 => ⟨fun _ _ _ _ _ r h => by simp [incunableref06_OneBits.l0] at h, fun _ _ _ _ _ _ _ _ r h => by simp [incunableref06_OneBits.l1] at h⟩
 | k + 1 => by
  obtain ⟨ih0, ih1⟩ := incunableref06_OneBits.mono_l k
  refine ⟨?_, ?_⟩
  ·intro y0 y1 y2 y3 y4
   unfold incunableref06_OneBits.l0
   repeat' first
   | (with_reducible exact ih0 _ _ _ _ _)
   | (with_reducible exact ih1 _ _ _ _ _ _ _ _)
   | (with_reducible exact incunableref06_Row.mono _ _)
   | (with_reducible exact incunableref06_RunBits.mono _ _ _)
   | (with_reducible first | exact LeO.refl _ | exact LeO.none _ | refine LeO.ite ?_ ?_ | refine LeO.bind ?_ (fun _ => ?_))
   | exact ih0 _ _ _ _ _
   | exact ih1 _ _ _ _ _ _ _ _
   | exact incunableref06_Row.mono _ _
   | exact incunableref06_RunBits.mono _ _ _
   | exact LeO.none _ | refine LeO.ite ?_ ?_ | refine LeO.bind ?_ (fun _ => ?_)
  ·intro y0 y1 y2 y3 y4 y5 y6 y7
   unfold incunableref06_OneBits.l1
   repeat' first
   | (with_reducible exact ih0 _ _ _ _ _)
   | (with_reducible exact ih1 _ _ _ _ _ _ _ _)
   | (with_reducible exact incunableref06_Row.mono _ _)
   | (with_reducible exact incunableref06_RunBits.mono _ _ _)
   | (with_reducible first | exact LeO.refl _ | exact LeO.none _ | refine LeO.ite ?_ ?_ | refine LeO.bind ?_ (fun _ => ?_))
   | exact ih0 _ _ _ _ _
   | exact ih1 _ _ _ _ _ _ _ _
   | exact incunableref06_Row.mono _ _
   | exact incunableref06_RunBits.mono _ _ _
   | exact LeO.none _ | refine LeO.ite ?_ ?_ | refine LeO.bind ?_ (fun _ => ?_)
theorem incunableref06_OneBits.mono : ∀ a0 a1 a2 k, LeO (incunableref06_OneBits.f k a0 a1 a2) (incunableref06_OneBits.f (k + 1) a0 a1 a2) := by
 intro a0 a1 a2 k
 obtain ⟨ih0, ih1⟩ := incunableref06_OneBits.mono_l k
 unfold incunableref06_OneBits.f
 repeat' first
   | (with_reducible exact ih0 _ _ _ _ _)
   | (with_reducible exact ih1 _ _ _ _ _ _ _ _)
   | (with_reducible exact incunableref06_Row.mono _ _)
   | (with_reducible exact incunableref06_RunBits.mono _ _ _)
   | (with_reducible first | exact LeO.refl _ | exact LeO.none _ | refine LeO.ite ?_ ?_ | refine LeO.bind ?_ (fun _ => ?_))
   | exact ih0 _ _ _ _ _
   | exact ih1 _ _ _ _ _ _ _ _
   | exact incunableref06_Row.mono _ _
   | exact incunableref06_RunBits.mono _ _ _
   | exact LeO.none _ | refine LeO.ite ?_ ?_ | refine LeO.bind ?_ (fun _ => ?_)
set_option maxHeartbeats 8000000 in
set_option maxRecDepth 100000 in
theorem incunableref06_OneBits.calls (k : Nat) (a0_0 : Int) (a0_1 : Int) (A0_2 : Option Addr) (c0_2 : Nat) (l0_2 : List Int) (r : List Int) (w : World) (hr0_2 : Kd.C (Kd.int .u8) w A0_2 l0_2.length l0_2) (hc0_2 : l0_2.length ≤ c0_2) (h : incunableref06_OneBits.f k a0_0 a0_1 l0_2 = some r) :
  Calls Tryd.prog 28 #[.agg #[.int .i64 a0_0, .int .i64 a0_1, .slice A0_2 l0_2.length c0_2]] w fun e w' => ∃ v0_ : Value, e = .returned (v0_) ∧ Kd.R (Kd.int .u8) 5 w' w.heap.size (fun _ => True) v0_ r ∧ Below w.heap.size w w' := by
 have hu48 := Tryd.underlying48
 have HR0_2 := Aside0.mk hr0_2
 have HC0_2 := Aside0.mk hc0_2
 clear hr0_2 hc0_2
 have HB := Aside0.mk (Below.refl w.heap.size w)
 have H : (incunableref06_OneBits.l0 k ([] : List Int) 0 a0_0 a0_1 l0_2) = some r := h
 clear h
 have H' := Aside0.mk H
 clear H
 go_enter Tryd.func28, Tryd.ntmps28
 go_wp2_with (first | ((with_reducible refine gd 1 rfl ?_); refine bx 1 #[.int .i64 a0_0, .int .i64 a0_1, .slice A0_2 l0_2.length c0_2] 48 rfl rfl ?_; intro gb476 hg w2 hbox hb; have n_ := aC (bs hb) (aC hbox (aC (gz hg) (aE (gz hg)))); clear HB; obtain ⟨HB, BK476, GW476, GE476⟩ := n_; clear hb hbox hg))
 go_loopg [3, 4] k (fun kq v3 v4 w' => ∃ (x3_1 : List Int) (x4_1 : Int), v4 = .int .i64 x4_1 ∧ Aside0 (incunableref06_OneBits.l0 kq x3_1 x4_1 a0_0 a0_1 l0_2 = some r) ∧ Aside0 (kq ≤ k) ∧ Aside0 (Kd.R (Kd.int .u8) 5 w' w.heap.size (fun _ => True) v3 x3_1) ∧ Aside0 (w'.heap[gb476]? = some (.cells #[.int .i64 a0_0, .int .i64 a0_1, (.slice A0_2 l0_2.length c0_2)] 48 (0, 0))) ∧ Aside0 (Below w.heap.size w w'))
 case atStart => exact ⟨(([] : List Int)), (0), rq, H', ⟨Nat.le_refl _⟩, ⟨by first | exact Kd.R_nil _ _ _ _ _ | exact Kd.N_nil _ _ _ _ _ | exact Kd.V_nil _ _ _ _ _ | exact Kd.Q_nil _ _ _ _ _ | exact Kd.S_nil _ _ _ _ _⟩, ⟨bU BK476.out⟩, ⟨bl⟩⟩
 case round =>
  clear H'
  obtain ⟨x3_1, x4_1, rfl, HA, HK1, HO_3, BK476, HB⟩ := hrel
  cases gk with
  | zero => exact absurd HA.out (by simp [incunableref06_OneBits.l0])
  | succ k1 =>
   have H := HA.out
   clear HA
   simp only [incunableref06_OneBits.l0] at H
   by_cases c3 : x4_1 < a0_1
   ·rw [if_pos c3] at H
    have c3b0 := decide_eq_true c3
    clear c3
    replace H := Option.bind_eq_some_iff.mp H
    obtain ⟨t477, A40, H⟩ := H
    replace H : ((incunableref06_Row.f k1 t477).bind fun t480 => (incunableref06_OneBits.l1 k1 x3_1 x4_1 t480 (t480.length : Int) 0 a0_0 a0_1 l0_2)) = some r := H
    have A4 := Aside0.mk A40
    clear A40
    replace H := Option.bind_eq_some_iff.mp H
    obtain ⟨t480, A50, H⟩ := H
    replace H : (incunableref06_OneBits.l1 k1 x3_1 x4_1 t480 (t480.length : Int) 0 a0_0 a0_1 l0_2) = some r := H
    have A5 := Aside0.mk A50
    clear A50
    have H' := Aside0.mk H
    clear H
    obtain ⟨hcz6_0, hcz6_1, hcz6_2, hfz6_0, hfz6_1, hfz6_2⟩ := cz3f BK476.out
    go_wp2_with (first | ((with_reducible refine gf 52 rfl ?_); refine gL (some 15) rfl rfl Tryd.func52 rfl #[.agg #[.int .i64 a0_0, .int .i64 a0_1, .slice A0_2 l0_2.length c0_2], .int .i64 x4_1] rfl ?_; (with_reducible refine (incunableref06_RowOf.calls a0_0 a0_1 _ _ l0_2 x4_1 t477 _ ?side1 ?side2 A4.out).mono ?_); (case side1 => exact cU (Kd.C_below HR0_2.out HB.out)); (case side2 => exact HC0_2.out); rintro e w7 ⟨v478, rfl, ho0, hb⟩; refine ⟨_, rfl, ?_⟩; have n_ := aC (Kd.R_elder' (rU HO_3.out) (Kd.R_base ho0) hb) (aC (Kd.R_lower (Kd.R_new' ho0 (Kd.R_lt (rU HO_3.out))) bz) (aC (blk_below (bU BK476.out) hb) (aE (bs hb)))); clear HO_3 BK476 HB; obtain ⟨HO_3, HO479, BK476, HB⟩ := n_; (try clear hb); (try clear ho0); obtain ⟨Ao8, co8, eo8⟩ := Kd.R_slice HO479.out; subst eo8) | ((with_reducible refine gf 23 rfl ?_); refine gL (some 16) rfl rfl Tryd.func23 rfl #[.slice Ao8 t477.length co8] rfl ?_; (with_reducible refine (incunableref06_Row.calls k1 _ _ t477 t480 _ ?side1 ?side2 A5.out).mono ?_); (case side1 => exact cU (Kd.R_reads' HO479.out).2.2); (case side2 => exact (Kd.R_reads' HO479.out).2.1); rintro e w9 ⟨v481, rfl, ho0, hb⟩; refine ⟨_, rfl, ?_⟩; have n_ := aC (Kd.R_below (rU HO_3.out) hb) (aC (Kd.R_below (rU HO479.out) hb) (aC (Kd.R_lower ho0 bz) (aC (blk_below (bU BK476.out) hb) (aE (bs hb))))); clear HO_3 HO479 BK476 HB; obtain ⟨HO_3, HO479, HO482, BK476, HB⟩ := n_; (try clear hb); (try clear ho0); obtain ⟨Ao10, co10, eo10⟩ := Kd.R_slice HO482.out; subst eo10))
    go_loopg [3, 18] k1 (fun kq v3 v18 w' => ∃ (x3_2 : List Int) (x18_2 : Int), v18 = .int .i64 x18_2 ∧ Aside0 (incunableref06_OneBits.l1 kq x3_2 x4_1 t480 (t480.length : Int) x18_2 a0_0 a0_1 l0_2 = some r) ∧ Aside0 (kq ≤ k1) ∧ Aside0 (Kd.R (Kd.int .u8) 5 w' w.heap.size (fun _ => True) v3 x3_2) ∧ Aside0 (Kd.R (Kd.int .i64) 3 w' w.heap.size (fun _ => True) (.slice Ao10 t480.length co10) t480) ∧ Aside0 (w'.heap[gb476]? = some (.cells #[.int .i64 a0_0, .int .i64 a0_1, (.slice A0_2 l0_2.length c0_2)] 48 (0, 0))) ∧ Aside0 (Below w.heap.size w w'))
    case atStart => exact ⟨(x3_1), (0), rq, H', ⟨Nat.le_refl _⟩, ⟨rU (Kd.R_mono HO_3.out (fun _ hk => trivial))⟩, ⟨rU HO482.out⟩, ⟨bU BK476.out⟩, ⟨bl⟩⟩
    case round =>
     clear H'
     obtain ⟨x3_2, x18_2, rfl, HA, HK2, HO_3, HO_16, BK476, HB⟩ := hrel
     cases gk with
     | zero => exact absurd HA.out (by simp [incunableref06_OneBits.l1])
     | succ k2 =>
      have H := HA.out
      clear HA
      simp only [incunableref06_OneBits.l1] at H
      by_cases c11 : x18_2 < (t480.length : Int)
      ·rw [if_pos c11] at H
       have c11b0 := decide_eq_true c11
       clear c11
       by_cases c12 : 0 ≤ x18_2
       ·rw [if_pos c12] at H
        have c12b0 := decide_eq_true c12
        clear c12
        by_cases c13 : x18_2 < (t480.length : Int)
        ·rw [if_pos c13] at H
         have c13b0 := decide_eq_true c13
         clear c13
         replace H := Option.bind_eq_some_iff.mp H
         obtain ⟨t484, A140, H⟩ := H
         replace H : (if x3_2.length + t484.length < 140737488355328 then (incunableref06_OneBits.l1 k2 (x3_2 ++ t484) x4_1 t480 (t480.length : Int) (wrap64 (x18_2 + 1)) a0_0 a0_1 l0_2) else (none)) = some r := H
         have A14 := Aside0.mk A140
         clear A140
         by_cases c15 : x3_2.length + t484.length < 140737488355328
         ·rw [if_pos c15] at H
          have LMc15 := Aside0.mk c15
          clear c15
          obtain ⟨y487, hy_⟩ : ∃ y_ : List Int, y_ = (x3_2 ++ t484) := ⟨_, rfl⟩
          replace H : (incunableref06_OneBits.l1 k2 y487 x4_1 t480 (t480.length : Int) (wrap64 (x18_2 + 1)) a0_0 a0_1 l0_2) = some r := rh
          have Ny487 := aE hy_
          clear hy_
          have H' := Aside0.mk H
          clear H
          have p483 : 0 ≤ (x18_2 : Int) := dt
          have q483 : x18_2 < (t480.length : Int) := dt
          obtain ⟨ad483, e483, hx483_0⟩ := Kd.at_int (Kd.R_reads' HO_16.out).2.2 x18_2 p483 q483
          cases e483
          replace p483 := eq_true p483
          replace q483 := eq_true q483
          go_wp2_with (first | ((with_reducible refine gf 15 rfl ?_); refine gL (some 27) rfl rfl Tryd.func15 rfl #[.int .i64 (rd t480 x18_2), .int .i64 (Int.tmod x18_2 2)] rfl ?_; (with_reducible refine (incunableref06_RunBits.calls k2 (rd t480 x18_2) (Int.tmod x18_2 2) t484 _ A14.out).mono ?_); rintro e w16 ⟨v485, rfl, ho0, hb⟩; refine ⟨_, rfl, ?_⟩; have n_ := aC (Kd.R_elder' (rU HO_3.out) (Kd.R_base ho0) hb) (aC (Kd.R_below (rU HO_16.out) hb) (aC (Kd.R_lower (Kd.R_new' ho0 (Kd.R_lt (rU HO_3.out))) bz) (aC (blk_below (bU BK476.out) hb) (aE (bs hb))))); clear HO_3 HO_16 BK476 HB; obtain ⟨HO_3, HO_16, HO486, BK476, HB⟩ := n_; (try clear hb); (try clear ho0); obtain ⟨Ao18, co18, eo18⟩ := Kd.R_slice HO486.out; subst eo18) | ((with_reducible refine gate_builtin (b := .append) (xs := #[.tmp 23, .tmp 27]) rfl ?_); at_builtin; refine Kd.R_append_rows (Kd.int .u8) (w0 := w) w.heap.size rfl (.tmp 23) (.tmp 27) 22 5 (.int .u8 0) 1 rfl Tryd.underlying22 info5 rfl (by decide) (by omega) u3 x3_2 t484 _ _ _ (fun k_ => some k_ ≠ (.slice Ao18 t484.length co18 : Value).ownBlock) (fun _ => False) rfl rfl ?aO ?aR (fun _ _ h => h) (fun _ h => h.elim) ?aF ?aB ?aS ?aL ?_; (case aR => repeat (first | exact (Kd.R_reads' HO486.out).2.2 | (with_reducible refine Kd.C_alloc ?_ _) | (with_reducible refine Kd.C_drewN ?_ _) | (with_reducible refine Kd.C_drew ?_))); (case aB => exact bl); (case aF => exact (fun k_ hk => Kd.fresh' (Kd.R_lt (rU HO486.out)) k_ hk)); (case aO => exact (rU (Kd.R_mono HO_3.out (fun _ hk => hk.2)))); (case aS => exact bz); (case aL => have := LMc15.out; omega); intro v488 w17 ho hb hg hat; rw [← Ny487.out] at ho; have n_ := aC (Kd.R_over' (rU HO_16.out) (Kd.R_typed (rU HO_3.out)) (by decide) hg) (aC (blk_grown (bU BK476.out) hg (Kd.R_ne HO_3.out BK476.out (by decide))) (aC (Kd.R_after (ok := (fun _ => True)) (rU HO486.out) hg hat) (aC hb (aE ho)))); clear HO_16 BK476 HO486 HB HO_3; obtain ⟨HO_16, BK476, HO486, HB, HO489⟩ := n_; clear ho hb hg hat))
          go_roundg k2
          case measure => have := HK1.out; have := HK2.out; omega
          case rel => exact ⟨(y487), (wrap64 (x18_2 + 1)), rq, H', ⟨by have := HK1.out; have := HK2.out; omega⟩, ⟨rU (Kd.R_mono HO489.out (fun _ hk => trivial))⟩, ⟨rU HO_16.out⟩, ⟨bU BK476.out⟩, ⟨bl⟩⟩
         ·rw [if_neg c15] at H
          exact absurd H (by simp)
        ·rw [if_neg c13] at H
         exact absurd H (by simp)
       ·rw [if_neg c12] at H
        exact absurd H (by simp)
      ·rw [if_neg c11] at H
       have c11b0 := decide_eq_false c11
       clear c11
       have H' := Aside0.mk H
       clear H
       go_wp2
       go_roundg k2
       case measure => have := HK1.out; have := HK2.out; omega
       case rel => exact ⟨(x3_2), (wrap64 (x4_1 + 1)), rq, H', ⟨by have := HK1.out; have := HK2.out; omega⟩, ⟨rU HO_3.out⟩, ⟨bU BK476.out⟩, ⟨bl⟩⟩
   ·rw [if_neg c3] at H
    have c3b0 := decide_eq_false c3
    clear c3
    obtain rfl := Option.some.inj H
    obtain ⟨hcz19_0, hcz19_1, hcz19_2, hfz19_0, hfz19_1, hfz19_2⟩ := cz3f BK476.out
    go_wp2
    go_ret
    exact ⟨_, re, rU HO_3.out, bl⟩

/-! ### incunableref06_at: function 91 -/
def incunableref06_at.f (l0 : List Int) (a1 : Int) : Option (Int) := if a1 < 0 then (some 0) else (if 0 ≤ a1 then (if a1 < (l0.length : Int) then (some (wrap64 (rd l0 a1))) else (none)) else (none))
set_option maxHeartbeats 8000000 in
set_option maxRecDepth 100000 in
theorem incunableref06_at.calls (A0 : Option Addr) (c0 : Nat) (l0 : List Int) (a1 : Int) (r : Int) (w : World) (hr0 : Kd.C (Kd.int .u8) w A0 l0.length l0) (hc0 : l0.length ≤ c0) (h : incunableref06_at.f l0 a1 = some r) :
  Calls Tryd.prog 91 #[.slice A0 l0.length c0, .int .i64 a1] w fun e w' => e = .returned (.int .i64 r) ∧ Drawn0 w w' := by
 have HR0 := Aside0.mk hr0
 have HC0 := Aside0.mk hc0
 clear hr0 hc0
 have H : (if a1 < 0 then (some 0) else (if 0 ≤ a1 then (if a1 < (l0.length : Int) then (some (wrap64 (rd l0 a1))) else (none)) else (none))) = some r := h
 clear h
 by_cases c3 : a1 < 0
 ·rw [if_pos c3] at H
  have c3b0 := decide_eq_true c3
  clear c3
  obtain rfl := Option.some.inj H
  go_enter Tryd.func91, Tryd.ntmps91
  go_wp2
  go_ret
  exact ⟨by first | rfl | (simp; done) | (simp [*]; done), by repeat (first | exact Drawn0.refl _ | apply Drawn0.step)⟩
 ·rw [if_neg c3] at H
  have c3b0 := decide_eq_false c3
  clear c3
  by_cases c4 : 0 ≤ a1
  ·rw [if_pos c4] at H
   have c4b0 := decide_eq_true c4
   clear c4
   by_cases c5 : a1 < (l0.length : Int)
   ·rw [if_pos c5] at H
    have c5b0 := decide_eq_true c5
    clear c5
    obtain rfl := Option.some.inj H
    have p490 : 0 ≤ (a1 : Int) := dt
    have q490 : a1 < (l0.length : Int) := dt
    obtain ⟨ad490, e490, hx490_0⟩ := Kd.at_int HR0.out a1 p490 q490
    cases e490
    replace p490 := eq_true p490
    replace q490 := eq_true q490
    go_enter Tryd.func91, Tryd.ntmps91
    go_wp2
    go_ret
    exact ⟨by first | rfl | (simp; done) | (simp [*]; done), by repeat (first | exact Drawn0.refl _ | apply Drawn0.step)⟩
   ·rw [if_neg c5] at H
    exact absurd H (by simp)
  ·rw [if_neg c4] at H
   exact absurd H (by simp)

/-! ### incunableref06_change: function 69 -/
def incunableref06_change.l0 : Nat → List Int → Int → Int → Option (Int)
 | 0, _, _, _ => none
 | k + 1, x0, x2, x7 => if x7 < (x0.length : Int) then ((incunableref06_at.f x0 x7).bind fun t491 => (if t491 = x2 then (incunableref06_change.l0 k x0 x2 (wrap64 (x7 + 1))) else ((incunableref06_at.f x0 (wrap64 (x7 - 1))).bind fun t492 => (if t492 = x2 then (some x7) else (incunableref06_change.l0 k x0 x2 (wrap64 (x7 + 1))))))) else (some (x0.length : Int))
def incunableref06_change.f (k : Nat) (l0 : List Int) (a1 : Int) (a2 : Int) : Option (Int) := incunableref06_change.l0 k l0 a2 (wrap64 (a1 + 1))
theorem incunableref06_change.mono_l : ∀ k, (∀ y0 y1 y2, LeO (incunableref06_change.l0 k y0 y1 y2) (incunableref06_change.l0 (k + 1) y0 y1 y2))
 | 0 => fun _ _ _ r h => by simp [incunableref06_change.l0] at h
 | k + 1 => by
  have ih0 := incunableref06_change.mono_l k
  ·intro y0 y1 y2
   unfold incunableref06_change.l0
   repeat' first
   | (with_reducible exact ih0 _ _ _)
   | (with_reducible first | exact LeO.refl _ | exact LeO.none _ | refine LeO.ite ?_ ?_ | refine LeO.bind ?_ (fun _ => ?_))
   | exact ih0 _ _ _
   | exact LeO.none _ | refine LeO.ite ?_ ?_ | refine LeO.bind ?_ (fun _ => ?_)
theorem incunableref06_change.mono : ∀ a0 a1 a2 k, LeO (incunableref06_change.f k a0 a1 a2) (incunableref06_change.f (k + 1) a0 a1 a2) := by
 intro a0 a1 a2 k
 have ih0 := incunableref06_change.mono_l k
 unfold incunableref06_change.f
 repeat' first
   | (with_reducible exact ih0 _ _ _)
   | (with_reducible first | exact LeO.refl _ | exact LeO.none _ | refine LeO.ite ?_ ?_ | refine LeO.bind ?_ (fun _ => ?_))
   | exact ih0 _ _ _
   | exact LeO.none _ | refine LeO.ite ?_ ?_ | refine LeO.bind ?_ (fun _ => ?_)
set_option maxHeartbeats 8000000 in
set_option maxRecDepth 100000 in
theorem incunableref06_change.calls (k : Nat) (A0 : Option Addr) (c0 : Nat) (l0 : List Int) (a1 : Int) (a2 : Int) (r : Int) (w : World) (hr0 : Kd.C (Kd.int .u8) w A0 l0.length l0) (hc0 : l0.length ≤ c0) (h : incunableref06_change.f k l0 a1 a2 = some r) :
  Calls Tryd.prog 69 #[.slice A0 l0.length c0, .int .i64 a1, .int .i64 a2] w fun e w' => e = .returned (.int .i64 r) ∧ Drawn0 w w' := by
 have HR0 := Aside0.mk hr0
 have HC0 := Aside0.mk hc0
 clear hr0 hc0
 have H : (incunableref06_change.l0 k l0 a2 (wrap64 (a1 + 1))) = some r := h
 clear h
 have H' := Aside0.mk H
 clear H
 go_enter Tryd.func69, Tryd.ntmps69
 go_wp2
 go_loopg [7] k (fun kq v7 w' => ∃ (x7_1 : Int), v7 = .int .i64 x7_1 ∧ Aside0 (incunableref06_change.l0 kq l0 a2 x7_1 = some r) ∧ Aside0 (kq ≤ k) ∧ Drawn0 w w')
 case atStart => exact ⟨(wrap64 (a1 + 1)), rq, H', ⟨Nat.le_refl _⟩, by repeat (first | exact Drawn0.refl _ | apply Drawn0.step)⟩
 case round =>
  clear H'
  obtain ⟨x7_1, rfl, HA, HK1, ⟨m1, rfl⟩⟩ := hrel
  cases gk with
  | zero => exact absurd HA.out (by simp [incunableref06_change.l0])
  | succ k1 =>
   have H := HA.out
   clear HA
   simp only [incunableref06_change.l0] at H
   by_cases c4 : x7_1 < (l0.length : Int)
   ·rw [if_pos c4] at H
    have c4b0 := decide_eq_true c4
    clear c4
    replace H := Option.bind_eq_some_iff.mp H
    obtain ⟨t491, A50, H⟩ := H
    replace H : (if t491 = a2 then (incunableref06_change.l0 k1 l0 a2 (wrap64 (x7_1 + 1))) else ((incunableref06_at.f l0 (wrap64 (x7_1 - 1))).bind fun t492 => (if t492 = a2 then (some x7_1) else (incunableref06_change.l0 k1 l0 a2 (wrap64 (x7_1 + 1)))))) = some r := H
    have A5 := Aside0.mk A50
    clear A50
    by_cases c6 : t491 = a2
    ·rw [if_pos c6] at H
     have c6b0 := beq_iff_eq.mpr c6
     have c6b1 := bne_eq_false_iff_eq.mpr c6
     clear c6
     have H' := Aside0.mk H
     clear H
     go_wp2_with (first | ((with_reducible refine gf 91 rfl ?_); refine gL (some 18) rfl rfl Tryd.func91 rfl #[.slice A0 l0.length c0, .int .i64 x7_1] rfl ?_; (with_reducible refine (incunableref06_at.calls _ _ l0 x7_1 t491 _ ?side1 ?side2 A5.out).mono ?_); (case side1 => exact cU HR0.out); (case side2 => exact HC0.out); rintro e w' ⟨rfl, ⟨nd, rfl⟩⟩; refine ⟨_, rfl, ?_⟩))
     go_roundg k1
     case measure => have := HK1.out; omega
     case rel => exact ⟨(wrap64 (x7_1 + 1)), rq, H', ⟨by have := HK1.out; omega⟩, by repeat (first | exact Drawn0.refl _ | apply Drawn0.step)⟩
    ·rw [if_neg c6] at H
     have c6b0 := beq_eq_false_iff_ne.mpr c6
     have c6b1 := bne_iff_ne.mpr c6
     replace H := Option.bind_eq_some_iff.mp H
     obtain ⟨t492, A70, H⟩ := H
     replace H : (if t492 = a2 then (some x7_1) else (incunableref06_change.l0 k1 l0 a2 (wrap64 (x7_1 + 1)))) = some r := H
     have A7 := Aside0.mk A70
     clear A70
     by_cases c8 : t492 = a2
     ·rw [if_pos c8] at H
      have c8b0 := beq_iff_eq.mpr c8
      have c8b1 := bne_eq_false_iff_eq.mpr c8
      clear c8
      obtain rfl := Option.some.inj H
      go_wp2_with (first | ((with_reducible refine gf 91 rfl ?_); refine gL (some 18) rfl rfl Tryd.func91 rfl #[.slice A0 l0.length c0, .int .i64 x7_1] rfl ?_; (with_reducible refine (incunableref06_at.calls _ _ l0 x7_1 t491 _ ?side1 ?side2 A5.out).mono ?_); (case side1 => exact cU HR0.out); (case side2 => exact HC0.out); rintro e w' ⟨rfl, ⟨nd, rfl⟩⟩; refine ⟨_, rfl, ?_⟩) | (go_at_call 91; (with_reducible refine (incunableref06_at.calls _ _ l0 (wrap64 (x7_1 - 1)) t492 _ ?side1 ?side2 A7.out).mono ?_); (case side1 => exact cU HR0.out); (case side2 => exact HC0.out); rintro e w' ⟨rfl, ⟨nd, rfl⟩⟩))
      go_ret
      exact ⟨by first | rfl | (simp; done) | (simp [*]; done), by repeat (first | exact Drawn0.refl _ | apply Drawn0.step)⟩
     ·rw [if_neg c8] at H
      have c8b0 := beq_eq_false_iff_ne.mpr c8
      have c8b1 := bne_iff_ne.mpr c8
      have H' := Aside0.mk H
      clear H
      go_wp2_with (first | ((with_reducible refine gf 91 rfl ?_); refine gL (some 18) rfl rfl Tryd.func91 rfl #[.slice A0 l0.length c0, .int .i64 x7_1] rfl ?_; (with_reducible refine (incunableref06_at.calls _ _ l0 x7_1 t491 _ ?side1 ?side2 A5.out).mono ?_); (case side1 => exact cU HR0.out); (case side2 => exact HC0.out); rintro e w' ⟨rfl, ⟨nd, rfl⟩⟩; refine ⟨_, rfl, ?_⟩) | (go_at_call 91; (with_reducible refine (incunableref06_at.calls _ _ l0 (wrap64 (x7_1 - 1)) t492 _ ?side1 ?side2 A7.out).mono ?_); (case side1 => exact cU HR0.out); (case side2 => exact HC0.out); rintro e w' ⟨rfl, ⟨nd, rfl⟩⟩))
      go_roundg k1
      case measure => have := HK1.out; omega
      case rel => exact ⟨(wrap64 (x7_1 + 1)), rq, H', ⟨by have := HK1.out; omega⟩, by repeat (first | exact Drawn0.refl _ | apply Drawn0.step)⟩
   ·rw [if_neg c4] at H
    have c4b0 := decide_eq_false c4
    clear c4
    obtain rfl := Option.some.inj H
    go_wp2
    go_ret
    exact ⟨by first | rfl | (simp; done) | (simp [*]; done), by repeat (first | exact Drawn0.refl _ | apply Drawn0.step)⟩

end Go.Proofs.YtknclbodinfbeaaDoor.PRunsCodes
