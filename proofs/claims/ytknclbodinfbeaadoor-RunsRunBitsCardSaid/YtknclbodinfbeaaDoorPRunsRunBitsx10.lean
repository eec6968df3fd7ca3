-- Written by a program of this session (wip/tools/myprint.py) over the kit's print. Not trusted: Lean checks it.
import Derived.Test.YtknclbodinfbeaaDoorPRunsRunBitsx0
import Derived.Test.YtknclbodinfbeaaDoorPRunsRunBitsx4
import Derived.Test.YtknclbodinfbeaaDoorPRunsRunBitsx6
import Derived.Test.YtknclbodinfbeaaDoorPRunsRunBitsx9
namespace Go.Proofs.YtknclbodinfbeaaDoor.PRunsRunBits
open Go.RowKit Go.Proofs.YtknclbodinfbeaaDoorW.PrintWords Go.Proofs.YtknclbodinfbeaaDoorW.PrintLast Go.Proofs.YtknclbodinfbeaaDoorW.PrintMore
attribute [local go_sem] max2_int min2_int max_two min_two max_three min_three max_four min_four   -- for this text's walks alone
set_option linter.unusedVariables false
set_option linter.unusedSimpArgs false

/-! ### incunableref04_Standard: function 38 -/
def incunableref04_Standard.f (a0 : Int) : Option ((List (S87))) := if a0 = 0 then (some (([(⟨1, 0, 0, 0⟩ : S87), (⟨2, 1, 1, 0⟩ : S87), (⟨3, 3, 3, 0⟩ : S87), (⟨4, 5, 11, 0⟩ : S87), (⟨5, 8, 43, 0⟩ : S87), (⟨5, 20, 299, 0⟩ : S87)] : List (S87)))) else (if a0 = 1 then (some (([(⟨1, 2, 0, 0⟩ : S87), (⟨2, 4, 4, 0⟩ : S87), (⟨3, 8, 20, 0⟩ : S87), (⟨4, 20, (-1), 1⟩ : S87), (⟨4, 0, 0, 2⟩ : S87)] : List (S87)))) else (if a0 = 2 then (some (([(⟨1, 0, 0, 0⟩ : S87), (⟨3, 2, 1, 0⟩ : S87), (⟨3, 2, (-1), 1⟩ : S87), (⟨3, 20, 5, 0⟩ : S87), (⟨3, 20, (-5), 1⟩ : S87)] : List (S87)))) else (some ([] : List (S87)))))
set_option maxHeartbeats 8000000 in
set_option maxRecDepth 100000 in
theorem incunableref04_Standard.calls (a0 : Int) (r : List (S87)) (w : World) (h : incunableref04_Standard.f a0 = some r) :
  Calls Tryd.prog 38 #[.int .i64 a0] w fun e w' => ∃ v0_ : Value, e = .returned (v0_) ∧ Kd.R k87 87 w' w.heap.size (fun _ => True) v0_ r ∧ Below w.heap.size w w' := by
 have hu87 := Tryd.underlying87
 have HB := Aside0.mk (Below.refl w.heap.size w)
 have H : (if a0 = 0 then (some (([(⟨1, 0, 0, 0⟩ : S87), (⟨2, 1, 1, 0⟩ : S87), (⟨3, 3, 3, 0⟩ : S87), (⟨4, 5, 11, 0⟩ : S87), (⟨5, 8, 43, 0⟩ : S87), (⟨5, 20, 299, 0⟩ : S87)] : List (S87)))) else (if a0 = 1 then (some (([(⟨1, 2, 0, 0⟩ : S87), (⟨2, 4, 4, 0⟩ : S87), (⟨3, 8, 20, 0⟩ : S87), (⟨4, 20, (-1), 1⟩ : S87), (⟨4, 0, 0, 2⟩ : S87)] : List (S87)))) else (if a0 = 2 then (some (([(⟨1, 0, 0, 0⟩ : S87), (⟨3, 2, 1, 0⟩ : S87), (⟨3, 2, (-1), 1⟩ : S87), (⟨3, 20, 5, 0⟩ : S87), (⟨3, 20, (-5), 1⟩ : S87)] : List (S87)))) else (some ([] : List (S87)))))) = some r := h
 clear h
 by_cases c2 : a0 = 0
 ·rw [if_pos c2] at H
  have c2b0 : (a0 == 0) = true := beq_iff_eq.mpr c2
  have c2b1 : (a0 != 0) = false := bne_eq_false_iff_eq.mpr c2
  clear c2
  obtain ⟨y307, hy307⟩ : ∃ y_ : List (S87), y_ = (([(⟨1, 0, 0, 0⟩ : S87), (⟨2, 1, 1, 0⟩ : S87), (⟨3, 3, 3, 0⟩ : S87), (⟨4, 5, 11, 0⟩ : S87), (⟨5, 8, 43, 0⟩ : S87), (⟨5, 20, 299, 0⟩ : S87)] : List (S87))) := ⟨_, rfl⟩
  replace H : (some y307) = some r := by first | (rw [hy307]; with_reducible exact H) | (have H2_ := (Option.bind_some _ _).symm.trans H; rw [hy307]; with_reducible exact H2_) | (have H2_ := (Option.bind_some _ _).symm.trans H; with_reducible exact H2_) | with_reducible exact H | (rw [hy307]; exact H) | exact H
  have Ny307 := Aside0.mk hy307
  clear hy307
  obtain rfl := Option.some.inj H
  go_enter Tryd.func38, Tryd.ntmps38
  go_wp2_with (first | ((with_reducible refine gate_dst (N := 12) rfl ?_); refine Kd.R_lit k87 _ 87 ?hg (N := 12) ?hd (xs := ([(⟨1, 0, 0, 0⟩ : S87), (⟨2, 1, 1, 0⟩ : S87), (⟨3, 3, 3, 0⟩ : S87), (⟨4, 5, 11, 0⟩ : S87), (⟨5, 8, 43, 0⟩ : S87), (⟨5, 20, 299, 0⟩ : S87)] : List (S87))) (inner := [.int .i64 1, .int .i64 0, .int .i64 0, .int .i64 0, .int .i64 2, .int .i64 1, .int .i64 1, .int .i64 0, .int .i64 3, .int .i64 3, .int .i64 3, .int .i64 0, .int .i64 4, .int .i64 5, .int .i64 11, .int .i64 0, .int .i64 5, .int .i64 8, .int .i64 43, .int .i64 0, .int .i64 5, .int .i64 20, .int .i64 299, .int .i64 0]) (ok := fun _ => True) (okp := fun _ => True) ?hr ?hp (fun _ hk => hk) trivial (Below.refl _ _) (Nat.le_refl _) (by simp) ?_; (case hd => rfl); (case hg => rfl); (case hr => first | (go_simp; done) | (go_simp; rfl)); (case hp => exact (Reps.c4 (show Kd.M k87 _ _ _ (⟨1, 0, 0, 0⟩ : S87) [.int .i64 1, .int .i64 0, .int .i64 0, .int .i64 0] from (k87_mkM _ _ _ (⟨1, 0, 0, 0⟩ : S87) )) (Reps.c4 (show Kd.M k87 _ _ _ (⟨2, 1, 1, 0⟩ : S87) [.int .i64 2, .int .i64 1, .int .i64 1, .int .i64 0] from (k87_mkM _ _ _ (⟨2, 1, 1, 0⟩ : S87) )) (Reps.c4 (show Kd.M k87 _ _ _ (⟨3, 3, 3, 0⟩ : S87) [.int .i64 3, .int .i64 3, .int .i64 3, .int .i64 0] from (k87_mkM _ _ _ (⟨3, 3, 3, 0⟩ : S87) )) (Reps.c4 (show Kd.M k87 _ _ _ (⟨4, 5, 11, 0⟩ : S87) [.int .i64 4, .int .i64 5, .int .i64 11, .int .i64 0] from (k87_mkM _ _ _ (⟨4, 5, 11, 0⟩ : S87) )) (Reps.c4 (show Kd.M k87 _ _ _ (⟨5, 8, 43, 0⟩ : S87) [.int .i64 5, .int .i64 8, .int .i64 43, .int .i64 0] from (k87_mkM _ _ _ (⟨5, 8, 43, 0⟩ : S87) )) (Reps.c4 (show Kd.M k87 _ _ _ (⟨5, 20, 299, 0⟩ : S87) [.int .i64 5, .int .i64 20, .int .i64 299, .int .i64 0] from (k87_mkM _ _ _ (⟨5, 20, 299, 0⟩ : S87) )) (Reps.none _ _)))))))); intro v308 w3 ho4 hb hg_ hnew_; clear hg_ hnew_; (first | rw [← Ny307.out] at ho4 | (simp only [Int.reduceToNat] at ho4; rw [← Ny307.out] at ho4)); have n0_ := Aside0.mk (Kd.R_lower ho4 (below_size (by repeat (first | (with_reducible first | exact HB.out | apply below_alloc | apply pw_below_drewN | apply below_drew1) | exact HB.out)))); have n1_ := Aside0.mk (below_step (by repeat (first | (with_reducible first | exact HB.out | apply below_alloc | apply pw_below_drewN | apply below_drew1) | exact HB.out)) hb); clear HB; have HO309 := n0_; have HB := n1_; clear n0_ n1_; clear hb ho4))
  go_ret
  exact ⟨_, by first | rfl | (simp [errW_none, errW_some] <;> rfl) | (simp [*, errW_none, errW_some] <;> rfl), by (with_reducible repeat (first | apply Kd.R_alloc | apply Kd.R_drewN | apply Kd.R_drew)); exact HO309.out, by repeat (first | (with_reducible first | exact HB.out | apply below_alloc | apply pw_below_drewN | apply below_drew1) | exact HB.out)⟩
 ·rw [if_neg c2] at H
  have c2b0 : (a0 == 0) = false := beq_eq_false_iff_ne.mpr c2
  have c2b1 : (a0 != 0) = true := bne_iff_ne.mpr c2
  by_cases c5 : a0 = 1
  ·rw [if_pos c5] at H
   have c5b0 : (a0 == 1) = true := beq_iff_eq.mpr c5
   have c5b1 : (a0 != 1) = false := bne_eq_false_iff_eq.mpr c5
   clear c5
   obtain ⟨y310, hy310⟩ : ∃ y_ : List (S87), y_ = (([(⟨1, 2, 0, 0⟩ : S87), (⟨2, 4, 4, 0⟩ : S87), (⟨3, 8, 20, 0⟩ : S87), (⟨4, 20, (-1), 1⟩ : S87), (⟨4, 0, 0, 2⟩ : S87)] : List (S87))) := ⟨_, rfl⟩
   replace H : (some y310) = some r := by first | (rw [hy310]; with_reducible exact H) | (have H2_ := (Option.bind_some _ _).symm.trans H; rw [hy310]; with_reducible exact H2_) | (have H2_ := (Option.bind_some _ _).symm.trans H; with_reducible exact H2_) | with_reducible exact H | (rw [hy310]; exact H) | exact H
   have Ny310 := Aside0.mk hy310
   clear hy310
   obtain rfl := Option.some.inj H
   go_enter Tryd.func38, Tryd.ntmps38
   go_wp2_with (first | ((with_reducible refine gate_dst (N := 20) rfl ?_); refine Kd.R_lit k87 _ 87 ?hg (N := 20) ?hd (xs := ([(⟨1, 2, 0, 0⟩ : S87), (⟨2, 4, 4, 0⟩ : S87), (⟨3, 8, 20, 0⟩ : S87), (⟨4, 20, (-1), 1⟩ : S87), (⟨4, 0, 0, 2⟩ : S87)] : List (S87))) (inner := [.int .i64 1, .int .i64 2, .int .i64 0, .int .i64 0, .int .i64 2, .int .i64 4, .int .i64 4, .int .i64 0, .int .i64 3, .int .i64 8, .int .i64 20, .int .i64 0, .int .i64 4, .int .i64 20, .int .i64 (-1), .int .i64 1, .int .i64 4, .int .i64 0, .int .i64 0, .int .i64 2]) (ok := fun _ => True) (okp := fun _ => True) ?hr ?hp (fun _ hk => hk) trivial (Below.refl _ _) (Nat.le_refl _) (by simp) ?_; (case hd => rfl); (case hg => rfl); (case hr => first | (go_simp; done) | (go_simp; rfl)); (case hp => exact (Reps.c4 (show Kd.M k87 _ _ _ (⟨1, 2, 0, 0⟩ : S87) [.int .i64 1, .int .i64 2, .int .i64 0, .int .i64 0] from (k87_mkM _ _ _ (⟨1, 2, 0, 0⟩ : S87) )) (Reps.c4 (show Kd.M k87 _ _ _ (⟨2, 4, 4, 0⟩ : S87) [.int .i64 2, .int .i64 4, .int .i64 4, .int .i64 0] from (k87_mkM _ _ _ (⟨2, 4, 4, 0⟩ : S87) )) (Reps.c4 (show Kd.M k87 _ _ _ (⟨3, 8, 20, 0⟩ : S87) [.int .i64 3, .int .i64 8, .int .i64 20, .int .i64 0] from (k87_mkM _ _ _ (⟨3, 8, 20, 0⟩ : S87) )) (Reps.c4 (show Kd.M k87 _ _ _ (⟨4, 20, (-1), 1⟩ : S87) [.int .i64 4, .int .i64 20, .int .i64 (-1), .int .i64 1] from (k87_mkM _ _ _ (⟨4, 20, (-1), 1⟩ : S87) )) (Reps.c4 (show Kd.M k87 _ _ _ (⟨4, 0, 0, 2⟩ : S87) [.int .i64 4, .int .i64 0, .int .i64 0, .int .i64 2] from (k87_mkM _ _ _ (⟨4, 0, 0, 2⟩ : S87) )) (Reps.none _ _))))))); intro v311 w6 ho7 hb hg_ hnew_; clear hg_ hnew_; (first | rw [← Ny310.out] at ho7 | (simp only [Int.reduceToNat] at ho7; rw [← Ny310.out] at ho7)); have n0_ := Aside0.mk (Kd.R_lower ho7 (below_size (by repeat (first | (with_reducible first | exact HB.out | apply below_alloc | apply pw_below_drewN | apply below_drew1) | exact HB.out)))); have n1_ := Aside0.mk (below_step (by repeat (first | (with_reducible first | exact HB.out | apply below_alloc | apply pw_below_drewN | apply below_drew1) | exact HB.out)) hb); clear HB; have HO312 := n0_; have HB := n1_; clear n0_ n1_; clear hb ho7))
   go_ret
   exact ⟨_, by first | rfl | (simp [errW_none, errW_some] <;> rfl) | (simp [*, errW_none, errW_some] <;> rfl), by (with_reducible repeat (first | apply Kd.R_alloc | apply Kd.R_drewN | apply Kd.R_drew)); exact HO312.out, by repeat (first | (with_reducible first | exact HB.out | apply below_alloc | apply pw_below_drewN | apply below_drew1) | exact HB.out)⟩
  ·rw [if_neg c5] at H
   have c5b0 : (a0 == 1) = false := beq_eq_false_iff_ne.mpr c5
   have c5b1 : (a0 != 1) = true := bne_iff_ne.mpr c5
   by_cases c8 : a0 = 2
   ·rw [if_pos c8] at H
    have c8b0 : (a0 == 2) = true := beq_iff_eq.mpr c8
    have c8b1 : (a0 != 2) = false := bne_eq_false_iff_eq.mpr c8
    clear c8
    obtain ⟨y313, hy313⟩ : ∃ y_ : List (S87), y_ = (([(⟨1, 0, 0, 0⟩ : S87), (⟨3, 2, 1, 0⟩ : S87), (⟨3, 2, (-1), 1⟩ : S87), (⟨3, 20, 5, 0⟩ : S87), (⟨3, 20, (-5), 1⟩ : S87)] : List (S87))) := ⟨_, rfl⟩
    replace H : (some y313) = some r := by first | (rw [hy313]; with_reducible exact H) | (have H2_ := (Option.bind_some _ _).symm.trans H; rw [hy313]; with_reducible exact H2_) | (have H2_ := (Option.bind_some _ _).symm.trans H; with_reducible exact H2_) | with_reducible exact H | (rw [hy313]; exact H) | exact H
    have Ny313 := Aside0.mk hy313
    clear hy313
    obtain rfl := Option.some.inj H
    go_enter Tryd.func38, Tryd.ntmps38
    go_wp2_with (first | ((with_reducible refine gate_dst (N := 28) rfl ?_); refine Kd.R_lit k87 _ 87 ?hg (N := 28) ?hd (xs := ([(⟨1, 0, 0, 0⟩ : S87), (⟨3, 2, 1, 0⟩ : S87), (⟨3, 2, (-1), 1⟩ : S87), (⟨3, 20, 5, 0⟩ : S87), (⟨3, 20, (-5), 1⟩ : S87)] : List (S87))) (inner := [.int .i64 1, .int .i64 0, .int .i64 0, .int .i64 0, .int .i64 3, .int .i64 2, .int .i64 1, .int .i64 0, .int .i64 3, .int .i64 2, .int .i64 (-1), .int .i64 1, .int .i64 3, .int .i64 20, .int .i64 5, .int .i64 0, .int .i64 3, .int .i64 20, .int .i64 (-5), .int .i64 1]) (ok := fun _ => True) (okp := fun _ => True) ?hr ?hp (fun _ hk => hk) trivial (Below.refl _ _) (Nat.le_refl _) (by simp) ?_; (case hd => rfl); (case hg => rfl); (case hr => first | (go_simp; done) | (go_simp; rfl)); (case hp => exact (Reps.c4 (show Kd.M k87 _ _ _ (⟨1, 0, 0, 0⟩ : S87) [.int .i64 1, .int .i64 0, .int .i64 0, .int .i64 0] from (k87_mkM _ _ _ (⟨1, 0, 0, 0⟩ : S87) )) (Reps.c4 (show Kd.M k87 _ _ _ (⟨3, 2, 1, 0⟩ : S87) [.int .i64 3, .int .i64 2, .int .i64 1, .int .i64 0] from (k87_mkM _ _ _ (⟨3, 2, 1, 0⟩ : S87) )) (Reps.c4 (show Kd.M k87 _ _ _ (⟨3, 2, (-1), 1⟩ : S87) [.int .i64 3, .int .i64 2, .int .i64 (-1), .int .i64 1] from (k87_mkM _ _ _ (⟨3, 2, (-1), 1⟩ : S87) )) (Reps.c4 (show Kd.M k87 _ _ _ (⟨3, 20, 5, 0⟩ : S87) [.int .i64 3, .int .i64 20, .int .i64 5, .int .i64 0] from (k87_mkM _ _ _ (⟨3, 20, 5, 0⟩ : S87) )) (Reps.c4 (show Kd.M k87 _ _ _ (⟨3, 20, (-5), 1⟩ : S87) [.int .i64 3, .int .i64 20, .int .i64 (-5), .int .i64 1] from (k87_mkM _ _ _ (⟨3, 20, (-5), 1⟩ : S87) )) (Reps.none _ _))))))); intro v314 w9 ho10 hb hg_ hnew_; clear hg_ hnew_; (first | rw [← Ny313.out] at ho10 | (simp only [Int.reduceToNat] at ho10; rw [← Ny313.out] at ho10)); have n0_ := Aside0.mk (Kd.R_lower ho10 (below_size (by repeat (first | (with_reducible first | exact HB.out | apply below_alloc | apply pw_below_drewN | apply below_drew1) | exact HB.out)))); have n1_ := Aside0.mk (below_step (by repeat (first | (with_reducible first | exact HB.out | apply below_alloc | apply pw_below_drewN | apply below_drew1) | exact HB.out)) hb); clear HB; have HO315 := n0_; have HB := n1_; clear n0_ n1_; clear hb ho10))
    go_ret
    exact ⟨_, by first | rfl | (simp [errW_none, errW_some] <;> rfl) | (simp [*, errW_none, errW_some] <;> rfl), by (with_reducible repeat (first | apply Kd.R_alloc | apply Kd.R_drewN | apply Kd.R_drew)); exact HO315.out, by repeat (first | (with_reducible first | exact HB.out | apply below_alloc | apply pw_below_drewN | apply below_drew1) | exact HB.out)⟩
   ·rw [if_neg c8] at H
    have c8b0 : (a0 == 2) = false := beq_eq_false_iff_ne.mpr c8
    have c8b1 : (a0 != 2) = true := bne_iff_ne.mpr c8
    obtain rfl := Option.some.inj H
    go_enter Tryd.func38, Tryd.ntmps38
    go_wp2
    go_ret
    exact ⟨_, by first | rfl | (simp [errW_none, errW_some] <;> rfl) | (simp [*, errW_none, errW_some] <;> rfl), by first | exact Kd.R_nil _ _ _ _ _ | exact Kd.N_nil _ _ _ _ _ | exact Kd.V_nil _ _ _ _ _ | exact Kd.Q_nil _ _ _ _ _ | exact Kd.S_nil _ _ _ _ _, by repeat (first | (with_reducible first | exact HB.out | apply below_alloc | apply pw_below_drewN | apply below_drew1) | exact HB.out)⟩

/-! ### incunableref06_table: function 39 -/
def incunableref06_table.f (a0 : Int) : Option ((List (S87))) := if a0 = 0 then (some (([(⟨2, 2, 0, 0⟩ : S87), (⟨2, 3, 4, 0⟩ : S87), (⟨2, 4, 12, 0⟩ : S87), (⟨2, 6, 28, 0⟩ : S87)] : List (S87)))) else (some (([(⟨1, 1, 0, 0⟩ : S87), (⟨2, 1, 2, 0⟩ : S87), (⟨3, 2, 4, 0⟩ : S87), (⟨3, 6, 8, 0⟩ : S87)] : List (S87))))
set_option maxHeartbeats 8000000 in
set_option maxRecDepth 100000 in
theorem incunableref06_table.calls (a0 : Int) (r : List (S87)) (w : World) (h : incunableref06_table.f a0 = some r) :
  Calls Tryd.prog 39 #[.int .i64 a0] w fun e w' => ∃ v0_ : Value, e = .returned (v0_) ∧ Kd.R k87 87 w' w.heap.size (fun _ => True) v0_ r ∧ Below w.heap.size w w' := by
 have hu87 := Tryd.underlying87
 have HB := Aside0.mk (Below.refl w.heap.size w)
 have H : (if a0 = 0 then (some (([(⟨2, 2, 0, 0⟩ : S87), (⟨2, 3, 4, 0⟩ : S87), (⟨2, 4, 12, 0⟩ : S87), (⟨2, 6, 28, 0⟩ : S87)] : List (S87)))) else (some (([(⟨1, 1, 0, 0⟩ : S87), (⟨2, 1, 2, 0⟩ : S87), (⟨3, 2, 4, 0⟩ : S87), (⟨3, 6, 8, 0⟩ : S87)] : List (S87))))) = some r := h
 clear h
 by_cases c2 : a0 = 0
 ·rw [if_pos c2] at H
  have c2b0 : (a0 == 0) = true := beq_iff_eq.mpr c2
  have c2b1 : (a0 != 0) = false := bne_eq_false_iff_eq.mpr c2
  clear c2
  obtain ⟨y316, hy316⟩ : ∃ y_ : List (S87), y_ = (([(⟨2, 2, 0, 0⟩ : S87), (⟨2, 3, 4, 0⟩ : S87), (⟨2, 4, 12, 0⟩ : S87), (⟨2, 6, 28, 0⟩ : S87)] : List (S87))) := ⟨_, rfl⟩
  replace H : (some y316) = some r := by first | (rw [hy316]; with_reducible exact H) | (have H2_ := (Option.bind_some _ _).symm.trans H; rw [hy316]; with_reducible exact H2_) | (have H2_ := (Option.bind_some _ _).symm.trans H; with_reducible exact H2_) | with_reducible exact H | (rw [hy316]; exact H) | exact H
  have Ny316 := Aside0.mk hy316
  clear hy316
  obtain rfl := Option.some.inj H
  go_enter Tryd.func39, Tryd.ntmps39
  go_wp2_with (first | ((with_reducible refine gate_dst (N := 9) rfl ?_); refine Kd.R_lit k87 _ 87 ?hg (N := 9) ?hd (xs := ([(⟨2, 2, 0, 0⟩ : S87), (⟨2, 3, 4, 0⟩ : S87), (⟨2, 4, 12, 0⟩ : S87), (⟨2, 6, 28, 0⟩ : S87)] : List (S87))) (inner := [.int .i64 2, .int .i64 2, .int .i64 0, .int .i64 0, .int .i64 2, .int .i64 3, .int .i64 4, .int .i64 0, .int .i64 2, .int .i64 4, .int .i64 12, .int .i64 0, .int .i64 2, .int .i64 6, .int .i64 28, .int .i64 0]) (ok := fun _ => True) (okp := fun _ => True) ?hr ?hp (fun _ hk => hk) trivial (Below.refl _ _) (Nat.le_refl _) (by simp) ?_; (case hd => rfl); (case hg => rfl); (case hr => first | (go_simp; done) | (go_simp; rfl)); (case hp => exact (Reps.c4 (show Kd.M k87 _ _ _ (⟨2, 2, 0, 0⟩ : S87) [.int .i64 2, .int .i64 2, .int .i64 0, .int .i64 0] from (k87_mkM _ _ _ (⟨2, 2, 0, 0⟩ : S87) )) (Reps.c4 (show Kd.M k87 _ _ _ (⟨2, 3, 4, 0⟩ : S87) [.int .i64 2, .int .i64 3, .int .i64 4, .int .i64 0] from (k87_mkM _ _ _ (⟨2, 3, 4, 0⟩ : S87) )) (Reps.c4 (show Kd.M k87 _ _ _ (⟨2, 4, 12, 0⟩ : S87) [.int .i64 2, .int .i64 4, .int .i64 12, .int .i64 0] from (k87_mkM _ _ _ (⟨2, 4, 12, 0⟩ : S87) )) (Reps.c4 (show Kd.M k87 _ _ _ (⟨2, 6, 28, 0⟩ : S87) [.int .i64 2, .int .i64 6, .int .i64 28, .int .i64 0] from (k87_mkM _ _ _ (⟨2, 6, 28, 0⟩ : S87) )) (Reps.none _ _)))))); intro v317 w3 ho4 hb hg_ hnew_; clear hg_ hnew_; (first | rw [← Ny316.out] at ho4 | (simp only [Int.reduceToNat] at ho4; rw [← Ny316.out] at ho4)); have n0_ := Aside0.mk (Kd.R_lower ho4 (below_size (by repeat (first | (with_reducible first | exact HB.out | apply below_alloc | apply pw_below_drewN | apply below_drew1) | exact HB.out)))); have n1_ := Aside0.mk (below_step (by repeat (first | (with_reducible first | exact HB.out | apply below_alloc | apply pw_below_drewN | apply below_drew1) | exact HB.out)) hb); clear HB; have HO318 := n0_; have HB := n1_; clear n0_ n1_; clear hb ho4))
  go_ret
  exact ⟨_, by first | rfl | (simp [errW_none, errW_some] <;> rfl) | (simp [*, errW_none, errW_some] <;> rfl), by (with_reducible repeat (first | apply Kd.R_alloc | apply Kd.R_drewN | apply Kd.R_drew)); exact HO318.out, by repeat (first | (with_reducible first | exact HB.out | apply below_alloc | apply pw_below_drewN | apply below_drew1) | exact HB.out)⟩
 ·rw [if_neg c2] at H
  have c2b0 : (a0 == 0) = false := beq_eq_false_iff_ne.mpr c2
  have c2b1 : (a0 != 0) = true := bne_iff_ne.mpr c2
  obtain ⟨y319, hy319⟩ : ∃ y_ : List (S87), y_ = (([(⟨1, 1, 0, 0⟩ : S87), (⟨2, 1, 2, 0⟩ : S87), (⟨3, 2, 4, 0⟩ : S87), (⟨3, 6, 8, 0⟩ : S87)] : List (S87))) := ⟨_, rfl⟩
  replace H : (some y319) = some r := by first | (rw [hy319]; with_reducible exact H) | (have H2_ := (Option.bind_some _ _).symm.trans H; rw [hy319]; with_reducible exact H2_) | (have H2_ := (Option.bind_some _ _).symm.trans H; with_reducible exact H2_) | with_reducible exact H | (rw [hy319]; exact H) | exact H
  have Ny319 := Aside0.mk hy319
  clear hy319
  obtain rfl := Option.some.inj H
  go_enter Tryd.func39, Tryd.ntmps39
  go_wp2_with (first | ((with_reducible refine gate_dst (N := 14) rfl ?_); refine Kd.R_lit k87 _ 87 ?hg (N := 14) ?hd (xs := ([(⟨1, 1, 0, 0⟩ : S87), (⟨2, 1, 2, 0⟩ : S87), (⟨3, 2, 4, 0⟩ : S87), (⟨3, 6, 8, 0⟩ : S87)] : List (S87))) (inner := [.int .i64 1, .int .i64 1, .int .i64 0, .int .i64 0, .int .i64 2, .int .i64 1, .int .i64 2, .int .i64 0, .int .i64 3, .int .i64 2, .int .i64 4, .int .i64 0, .int .i64 3, .int .i64 6, .int .i64 8, .int .i64 0]) (ok := fun _ => True) (okp := fun _ => True) ?hr ?hp (fun _ hk => hk) trivial (Below.refl _ _) (Nat.le_refl _) (by simp) ?_; (case hd => rfl); (case hg => rfl); (case hr => first | (go_simp; done) | (go_simp; rfl)); (case hp => exact (Reps.c4 (show Kd.M k87 _ _ _ (⟨1, 1, 0, 0⟩ : S87) [.int .i64 1, .int .i64 1, .int .i64 0, .int .i64 0] from (k87_mkM _ _ _ (⟨1, 1, 0, 0⟩ : S87) )) (Reps.c4 (show Kd.M k87 _ _ _ (⟨2, 1, 2, 0⟩ : S87) [.int .i64 2, .int .i64 1, .int .i64 2, .int .i64 0] from (k87_mkM _ _ _ (⟨2, 1, 2, 0⟩ : S87) )) (Reps.c4 (show Kd.M k87 _ _ _ (⟨3, 2, 4, 0⟩ : S87) [.int .i64 3, .int .i64 2, .int .i64 4, .int .i64 0] from (k87_mkM _ _ _ (⟨3, 2, 4, 0⟩ : S87) )) (Reps.c4 (show Kd.M k87 _ _ _ (⟨3, 6, 8, 0⟩ : S87) [.int .i64 3, .int .i64 6, .int .i64 8, .int .i64 0] from (k87_mkM _ _ _ (⟨3, 6, 8, 0⟩ : S87) )) (Reps.none _ _)))))); intro v320 w5 ho6 hb hg_ hnew_; clear hg_ hnew_; (first | rw [← Ny319.out] at ho6 | (simp only [Int.reduceToNat] at ho6; rw [← Ny319.out] at ho6)); have n0_ := Aside0.mk (Kd.R_lower ho6 (below_size (by repeat (first | (with_reducible first | exact HB.out | apply below_alloc | apply pw_below_drewN | apply below_drew1) | exact HB.out)))); have n1_ := Aside0.mk (below_step (by repeat (first | (with_reducible first | exact HB.out | apply below_alloc | apply pw_below_drewN | apply below_drew1) | exact HB.out)) hb); clear HB; have HO321 := n0_; have HB := n1_; clear n0_ n1_; clear hb ho6))
  go_ret
  exact ⟨_, by first | rfl | (simp [errW_none, errW_some] <;> rfl) | (simp [*, errW_none, errW_some] <;> rfl), by (with_reducible repeat (first | apply Kd.R_alloc | apply Kd.R_drewN | apply Kd.R_drew)); exact HO321.out, by repeat (first | (with_reducible first | exact HB.out | apply below_alloc | apply pw_below_drewN | apply below_drew1) | exact HB.out)⟩

/-! ### incunableref06_RunBits: function 15 -/
def incunableref06_RunBits.f (k : Nat) (a0 : Int) (a1 : Int) : Option (List Int) := (incunableref04_Standard.f 0).bind fun t322 => ((incunableref04_Bits.f k t322 false (wrap64 (Int.tdiv a0 64))).bind fun bt325 => ((incunableref06_table.f a1).bind fun t329 => ((incunableref04_Bits.f k t329 false (Int.tmod a0 64)).bind fun bt332 => ((some (([] : List Int) : List Int)).bind fun y336 => (if y336.length + bt325.1.length < 140737488355328 then ((some (y336 ++ bt325.1 : List Int)).bind fun y339 => (if y339.length + bt332.1.length < 140737488355328 then (some (y339 ++ bt332.1)) else (none))) else (none))))))
theorem incunableref06_RunBits.mono : ∀ a0 a1 k, LeO (incunableref06_RunBits.f k a0 a1) (incunableref06_RunBits.f (k + 1) a0 a1) := by
 intro a0 a1 k
 unfold incunableref06_RunBits.f
 repeat' first
   | (with_reducible exact incunableref04_Bits.mono _ _ _ _)
   | (with_reducible exact LeO.refl _)
   | (with_reducible exact LeO.none _)
   | (with_reducible refine LeO.ite ?_ ?_)
   | (with_reducible refine LeO.bind ?_ (fun _ => ?_))
   | exact incunableref04_Bits.mono _ _ _ _
   | exact LeO.none _
   | refine LeO.ite ?_ ?_
   | refine LeO.bind ?_ (fun _ => ?_)
set_option maxHeartbeats 8000000 in
set_option maxRecDepth 100000 in
theorem incunableref06_RunBits.calls (k : Nat) (a0 : Int) (a1 : Int) (r : List Int) (w : World) (h : incunableref06_RunBits.f k a0 a1 = some r) :
  Calls Tryd.prog 15 #[.int .i64 a0, .int .i64 a1] w fun e w' => ∃ v0_ : Value, e = .returned (v0_) ∧ Kd.R (Kd.int .u8) 5 w' w.heap.size (fun _ => True) v0_ r ∧ Below w.heap.size w w' := by
 have hu64 := Tryd.underlying64
 have HB := Aside0.mk (Below.refl w.heap.size w)
 have H : ((incunableref04_Standard.f 0).bind fun t322 => ((incunableref04_Bits.f k t322 false (wrap64 (Int.tdiv a0 64))).bind fun bt325 => ((incunableref06_table.f a1).bind fun t329 => ((incunableref04_Bits.f k t329 false (Int.tmod a0 64)).bind fun bt332 => ((some (([] : List Int) : List Int)).bind fun y336 => (if y336.length + bt325.1.length < 140737488355328 then ((some (y336 ++ bt325.1 : List Int)).bind fun y339 => (if y339.length + bt332.1.length < 140737488355328 then (some (y339 ++ bt332.1)) else (none))) else (none))))))) = some r := h
 clear h
 replace H := Option.bind_eq_some_iff.mp H
 obtain ⟨t322, A30, H⟩ := H
 replace H : ((incunableref04_Bits.f k t322 false (wrap64 (Int.tdiv a0 64))).bind fun bt325 => ((incunableref06_table.f a1).bind fun t329 => ((incunableref04_Bits.f k t329 false (Int.tmod a0 64)).bind fun bt332 => ((some (([] : List Int) : List Int)).bind fun y336 => (if y336.length + bt325.1.length < 140737488355328 then ((some (y336 ++ bt325.1 : List Int)).bind fun y339 => (if y339.length + bt332.1.length < 140737488355328 then (some (y339 ++ bt332.1)) else (none))) else (none)))))) = some r := H
 have A3 := Aside0.mk A30
 clear A30
 replace H := Option.bind_eq_some_iff.mp H
 obtain ⟨⟨t325, t328⟩, A40, H⟩ := H
 replace H : ((incunableref06_table.f a1).bind fun t329 => ((incunableref04_Bits.f k t329 false (Int.tmod a0 64)).bind fun bt332 => ((some (([] : List Int) : List Int)).bind fun y336 => (if y336.length + t325.length < 140737488355328 then ((some (y336 ++ t325 : List Int)).bind fun y339 => (if y339.length + bt332.1.length < 140737488355328 then (some (y339 ++ bt332.1)) else (none))) else (none))))) = some r := H
 have A4 := Aside0.mk A40
 clear A40
 replace H := Option.bind_eq_some_iff.mp H
 obtain ⟨t329, A50, H⟩ := H
 replace H : ((incunableref04_Bits.f k t329 false (Int.tmod a0 64)).bind fun bt332 => ((some (([] : List Int) : List Int)).bind fun y336 => (if y336.length + t325.length < 140737488355328 then ((some (y336 ++ t325 : List Int)).bind fun y339 => (if y339.length + bt332.1.length < 140737488355328 then (some (y339 ++ bt332.1)) else (none))) else (none)))) = some r := H
 have A5 := Aside0.mk A50
 clear A50
 replace H := Option.bind_eq_some_iff.mp H
 obtain ⟨⟨t332, t335⟩, A60, H⟩ := H
 replace H : ((some (([] : List Int) : List Int)).bind fun y336 => (if y336.length + t325.length < 140737488355328 then ((some (y336 ++ t325 : List Int)).bind fun y339 => (if y339.length + t332.length < 140737488355328 then (some (y339 ++ t332)) else (none))) else (none))) = some r := H
 have A6 := Aside0.mk A60
 clear A60
 obtain ⟨y336, hy336⟩ : ∃ y_ : List Int, y_ = (([] : List Int)) := ⟨_, rfl⟩
 replace H : (if y336.length + t325.length < 140737488355328 then ((some (y336 ++ t325 : List Int)).bind fun y339 => (if y339.length + t332.length < 140737488355328 then (some (y339 ++ t332)) else (none))) else (none)) = some r := by first | (rw [hy336]; with_reducible exact H) | (have H2_ := (Option.bind_some _ _).symm.trans H; rw [hy336]; with_reducible exact H2_) | (have H2_ := (Option.bind_some _ _).symm.trans H; with_reducible exact H2_) | with_reducible exact H | (rw [hy336]; exact H) | exact H
 have Ny336 := Aside0.mk hy336
 clear hy336
 by_cases c7 : y336.length + t325.length < 140737488355328
 ·rw [if_pos c7] at H
  have LMc7 := Aside0.mk c7
  clear c7
  obtain ⟨y339, hy339⟩ : ∃ y_ : List Int, y_ = (y336 ++ t325) := ⟨_, rfl⟩
  replace H : (if y339.length + t332.length < 140737488355328 then (some (y339 ++ t332)) else (none)) = some r := by first | (rw [hy339]; with_reducible exact H) | (have H2_ := (Option.bind_some _ _).symm.trans H; rw [hy339]; with_reducible exact H2_) | (have H2_ := (Option.bind_some _ _).symm.trans H; with_reducible exact H2_) | with_reducible exact H | (rw [hy339]; exact H) | exact H
  have Ny339 := Aside0.mk hy339
  clear hy339
  by_cases c8 : y339.length + t332.length < 140737488355328
  ·rw [if_pos c8] at H
   have LMc8 := Aside0.mk c8
   clear c8
   obtain ⟨y342, hy342⟩ : ∃ y_ : List Int, y_ = (y339 ++ t332) := ⟨_, rfl⟩
   replace H : (some y342) = some r := by first | (rw [hy342]; with_reducible exact H) | (have H2_ := (Option.bind_some _ _).symm.trans H; rw [hy342]; with_reducible exact H2_) | (have H2_ := (Option.bind_some _ _).symm.trans H; with_reducible exact H2_) | with_reducible exact H | (rw [hy342]; exact H) | exact H
   have Ny342 := Aside0.mk hy342
   clear hy342
   obtain rfl := Option.some.inj H
   go_enter Tryd.func15, Tryd.ntmps15
   go_wp2_with (first | ((with_reducible refine gate_callee (f := 38) rfl ?_); refine goesL_ (some 10) rfl rfl Tryd.func38 (by kernel_rfl) rfl #[.int .i64 0] rfl (by (try simp only [List.map_toArray, List.map_cons, List.map_nil]); first | done | rfl | (simp only [List.length_drop, List.length_take]; rfl)) ?_; (with_reducible refine (incunableref04_Standard.calls 0 t322 _ A3.out).mono ?_); rintro e w9 ⟨v323, rfl, ho0, hb⟩; refine ⟨_, rfl, ?_⟩; have n0_ := Aside0.mk (Kd.R_lower ho0 (below_size (by repeat (first | (with_reducible first | exact HB.out | apply below_alloc | apply pw_below_drewN | apply below_drew1) | exact HB.out)))); have n1_ := Aside0.mk (below_step (by repeat (first | (with_reducible first | exact HB.out | apply below_alloc | apply pw_below_drewN | apply below_drew1) | exact HB.out)) hb); clear HB; have HO324 := n0_; have HB := n1_; clear n0_ n1_; (try clear hb); (try clear hb2); (try clear hk); (try clear hi); (try clear ho0); obtain ⟨Ao10, co10, eo10⟩ := Kd.R_slice HO324.out; subst eo10) | ((with_reducible refine gate_callee (f := 37) rfl ?_); refine goesL_ (some 14) rfl rfl Tryd.func37 (by kernel_rfl) rfl #[.slice Ao10 t322.length co10, .agg #[.bool false, .int .i64 (wrap64 (Int.tdiv a0 64))]] rfl (by (try simp only [List.map_toArray, List.map_cons, List.map_nil]); first | done | rfl | (simp only [List.length_drop, List.length_take]; rfl)) ?_; (with_reducible refine (incunableref04_Bits.calls k _ _ t322 false (wrap64 (Int.tdiv a0 64)) t325 t328 _ ?side1 ?side2 A4.out).mono ?_); (case side1 => repeat (first | exact (Kd.R_reads' HO324.out).2.2 | (with_reducible refine Kd.C_alloc ?_ _) | (with_reducible refine Kd.C_drewN ?_ _) | (with_reducible refine Kd.C_drew ?_))); (case side2 => exact (Kd.R_reads' HO324.out).2.1); rintro e w11 ⟨v326, rfl, ho0, hb⟩; refine ⟨_, rfl, ?_⟩; have n0_ := Aside0.mk (Kd.R_below (rU HO324.out) hb); have n1_ := Aside0.mk (Kd.R_lower ho0 (below_size (by repeat (first | (with_reducible first | exact HB.out | apply below_alloc | apply pw_below_drewN | apply below_drew1) | exact HB.out)))); have n2_ := Aside0.mk (below_step (by repeat (first | (with_reducible first | exact HB.out | apply below_alloc | apply pw_below_drewN | apply below_drew1) | exact HB.out)) hb); clear HO324; clear HB; have HO324 := n0_; have HO327 := n1_; have HB := n2_; clear n0_ n1_ n2_; (try clear hb); (try clear hb2); (try clear hk); (try clear hi); (try clear ho0)) | ((with_reducible refine gate_callee (f := 39) rfl ?_); refine goesL_ (some 19) rfl rfl Tryd.func39 (by kernel_rfl) rfl #[.int .i64 a1] rfl (by (try simp only [List.map_toArray, List.map_cons, List.map_nil]); first | done | rfl | (simp only [List.length_drop, List.length_take]; rfl)) ?_; (with_reducible refine (incunableref06_table.calls a1 t329 _ A5.out).mono ?_); rintro e w12 ⟨v330, rfl, ho0, hb⟩; refine ⟨_, rfl, ?_⟩; have n0_ := Aside0.mk (Kd.R_elder' (rU HO324.out) (Kd.R_base ho0) hb); have n1_ := Aside0.mk (Kd.R_below (rU HO327.out) hb); have n2_ := Aside0.mk (Kd.R_lower (Kd.R_new' ho0 (Kd.R_lt (rU HO324.out))) (below_size (by repeat (first | (with_reducible first | exact HB.out | apply below_alloc | apply pw_below_drewN | apply below_drew1) | exact HB.out)))); have n3_ := Aside0.mk (below_step (by repeat (first | (with_reducible first | exact HB.out | apply below_alloc | apply pw_below_drewN | apply below_drew1) | exact HB.out)) hb); clear HO324; clear HO327; clear HB; have HO324 := n0_; have HO327 := n1_; have HO331 := n2_; have HB := n3_; clear n0_ n1_ n2_ n3_; (try clear hb); (try clear hb2); (try clear hk); (try clear hi); (try clear ho0); obtain ⟨Ao13, co13, eo13⟩ := Kd.R_slice HO331.out; subst eo13) | ((with_reducible refine gate_callee (f := 37) rfl ?_); refine goesL_ (some 23) rfl rfl Tryd.func37 (by kernel_rfl) rfl #[.slice Ao13 t329.length co13, .agg #[.bool false, .int .i64 (Int.tmod a0 64)]] rfl (by (try simp only [List.map_toArray, List.map_cons, List.map_nil]); first | done | rfl | (simp only [List.length_drop, List.length_take]; rfl)) ?_; (with_reducible refine (incunableref04_Bits.calls k _ _ t329 false (Int.tmod a0 64) t332 t335 _ ?side1 ?side2 A6.out).mono ?_); (case side1 => repeat (first | exact (Kd.R_reads' HO331.out).2.2 | (with_reducible refine Kd.C_alloc ?_ _) | (with_reducible refine Kd.C_drewN ?_ _) | (with_reducible refine Kd.C_drew ?_))); (case side2 => exact (Kd.R_reads' HO331.out).2.1); rintro e w14 ⟨v333, rfl, ho0, hb⟩; refine ⟨_, rfl, ?_⟩; have n0_ := Aside0.mk (Kd.R_below (rU HO324.out) hb); have n1_ := Aside0.mk (Kd.R_elder' (rU HO327.out) (Kd.R_base ho0) hb); have n2_ := Aside0.mk (Kd.R_below (rU HO331.out) hb); have n3_ := Aside0.mk (Kd.R_lower (Kd.R_new' ho0 (Kd.R_lt (rU HO327.out))) (below_size (by repeat (first | (with_reducible first | exact HB.out | apply below_alloc | apply pw_below_drewN | apply below_drew1) | exact HB.out)))); have n4_ := Aside0.mk (below_step (by repeat (first | (with_reducible first | exact HB.out | apply below_alloc | apply pw_below_drewN | apply below_drew1) | exact HB.out)) hb); clear HO324; clear HO327; clear HO331; clear HB; have HO324 := n0_; have HO327 := n1_; have HO331 := n2_; have HO334 := n3_; have HB := n4_; clear n0_ n1_ n2_ n3_ n4_; (try clear hb); (try clear hb2); (try clear hk); (try clear hi); (try clear ho0)) | ((with_reducible refine gate_dst (N := 26) rfl ?_); refine Kd.R_lit (Kd.int .u8) _ 5 ?hg (N := 26) ?hd (xs := ([] : List Int)) (inner := []) (ok := fun _ => True) (okp := fun _ => True) ?hr ?hp (fun _ hk => hk) trivial (Below.refl _ _) (Nat.le_refl _) (by simp) ?_; (case hd => rfl); (case hg => rfl); (case hr => first | (go_simp; done) | (go_simp; rfl)); (case hp => exact (Reps.none _ _)); intro v337 w15 ho16 hb hg_ hnew_; clear hg_ hnew_; (first | rw [← Ny336.out] at ho16 | (simp only [Int.reduceToNat] at ho16; rw [← Ny336.out] at ho16)); have n0_ := Aside0.mk (Kd.R_below (rU HO324.out) hb); have n1_ := Aside0.mk (Kd.R_elder' (rU HO327.out) (Kd.R_base ho16) hb); have n2_ := Aside0.mk (Kd.R_below (rU HO331.out) hb); have n3_ := Aside0.mk (Kd.R_elder' (rU HO334.out) (Kd.R_base ho16) hb); have n4_ := Aside0.mk (Kd.R_lower (Kd.R_new' (Kd.R_new' ho16 (Kd.R_lt (rU HO327.out))) (Kd.R_lt (rU HO334.out))) (below_size (by repeat (first | (with_reducible first | exact HB.out | apply below_alloc | apply pw_below_drewN | apply below_drew1) | exact HB.out)))); have n5_ := Aside0.mk (below_step (by repeat (first | (with_reducible first | exact HB.out | apply below_alloc | apply pw_below_drewN | apply below_drew1) | exact HB.out)) hb); clear HO324; clear HO327; clear HO331; clear HO334; clear HB; have HO324 := n0_; have HO327 := n1_; have HO331 := n2_; have HO334 := n3_; have HO338 := n4_; have HB := n5_; clear n0_ n1_ n2_ n3_ n4_ n5_; clear hb ho16; obtain ⟨Ao18, co18, eo18⟩ := Kd.R_slice HO327.out; subst eo18) | ((with_reducible refine gate_builtin (b := .append) (xs := #[.tmp 26, .tmp 27]) rfl ?_); at_builtin; refine Kd.R_append_rows (Kd.int .u8) (w0 := w) w.heap.size rfl (.tmp 26) (.tmp 27) 22 5 (.int .u8 0) 1 rfl Tryd.underlying22 info5 rfl (by decide) (by omega) v337 y336 t325 _ _ _ (fun k_ => some k_ ≠ (.slice Ao18 t325.length co18 : Value).ownBlock ∧ some k_ ≠ (v333 : Value).ownBlock) (fun _ => False) rfl rfl ?aO ?aR (fun _ _ h => h) (fun _ h => h.elim) ?aF ?aB ?aS ?aL ?_; (case aR => repeat (first | exact (Kd.R_reads' HO327.out).2.2 | (with_reducible refine Kd.C_alloc ?_ _) | (with_reducible refine Kd.C_drewN ?_ _) | (with_reducible refine Kd.C_drew ?_))); (case aB => exact (by repeat (first | (with_reducible first | exact HB.out | apply below_alloc | apply pw_below_drewN | apply below_drew1) | exact HB.out))); (case aF => exact (fun k_ hk => ⟨Kd.fresh' (Kd.R_lt (rU HO327.out)) k_ hk, Kd.fresh' (Kd.R_lt (rU HO334.out)) k_ hk⟩)); (case aO => exact (by (with_reducible repeat (first | apply Kd.R_alloc | apply Kd.R_drewN | apply Kd.R_drew)); exact Kd.R_mono HO338.out (fun _ hk => ⟨hk.1.2, hk.2⟩))); (case aS => exact (below_size (by repeat (first | (with_reducible first | exact HB.out | apply below_alloc | apply pw_below_drewN | apply below_drew1) | exact HB.out)))); (case aL => have := LMc7.out; omega); intro v340 w17 ho hb hg hat; rw [← Ny339.out] at ho; have n0_ := Aside0.mk (Kd.R_over' (rU HO324.out) (Kd.R_typed (rU HO338.out)) (by decide) hg); have n1_ := Aside0.mk (Kd.R_after (ok := (fun k_ => some k_ ≠ (v333 : Value).ownBlock)) (by (with_reducible repeat (first | apply Kd.R_alloc | apply Kd.R_drewN | apply Kd.R_drew)); exact Kd.R_mono HO327.out (fun _ hk => ⟨hk.1.2, hk.2⟩)) hg hat); have n2_ := Aside0.mk (Kd.R_over' (rU HO331.out) (Kd.R_typed (rU HO338.out)) (by decide) hg); have n3_ := Aside0.mk (Kd.R_after (ok := (fun k_ => some k_ ≠ (.slice Ao18 t325.length co18 : Value).ownBlock)) (by (with_reducible repeat (first | apply Kd.R_alloc | apply Kd.R_drewN | apply Kd.R_drew)); exact Kd.R_mono HO334.out (fun _ hk => ⟨hk.1.2, hk.2⟩)) hg hat); have n4_ := Aside0.mk (hb); have n5_ := Aside0.mk (ho); clear HO324; clear HO327; clear HO331; clear HO334; clear HB; clear HO338; have HO324 := n0_; have HO327 := n1_; have HO331 := n2_; have HO334 := n3_; have HB := n4_; have HO341 := n5_; clear n0_ n1_ n2_ n3_ n4_ n5_; clear ho hb hg hat; obtain ⟨Ao20, co20, eo20⟩ := Kd.R_slice HO334.out; subst eo20) | ((with_reducible refine gate_builtin (b := .append) (xs := #[.tmp 28, .tmp 29]) rfl ?_); at_builtin; refine Kd.R_append_rows (Kd.int .u8) (w0 := w) w.heap.size rfl (.tmp 28) (.tmp 29) 22 5 (.int .u8 0) 1 rfl Tryd.underlying22 info5 rfl (by decide) (by omega) v340 y339 t332 _ _ _ (fun k_ => some k_ ≠ (.slice Ao18 t325.length co18 : Value).ownBlock ∧ some k_ ≠ (.slice Ao20 t332.length co20 : Value).ownBlock) (fun _ => False) rfl rfl ?aO ?aR (fun _ _ h => h) (fun _ h => h.elim) ?aF ?aB ?aS ?aL ?_; (case aR => repeat (first | exact (Kd.R_reads' HO334.out).2.2 | (with_reducible refine Kd.C_alloc ?_ _) | (with_reducible refine Kd.C_drewN ?_ _) | (with_reducible refine Kd.C_drew ?_))); (case aB => exact (by repeat (first | (with_reducible first | exact HB.out | apply below_alloc | apply pw_below_drewN | apply below_drew1) | exact HB.out))); (case aF => exact (fun k_ hk => ⟨Kd.fresh' (Kd.R_lt (rU HO327.out)) k_ hk, Kd.fresh' (Kd.R_lt (rU HO334.out)) k_ hk⟩)); (case aO => exact (rU HO341.out)); (case aS => exact (below_size (by repeat (first | (with_reducible first | exact HB.out | apply below_alloc | apply pw_below_drewN | apply below_drew1) | exact HB.out)))); (case aL => have := LMc8.out; omega); intro v343 w19 ho hb hg hat; rw [← Ny342.out] at ho; have n0_ := Aside0.mk (Kd.R_over' (rU HO324.out) (Kd.R_typed (rU HO341.out)) (by decide) hg); have n1_ := Aside0.mk (Kd.R_after (ok := (fun k_ => some k_ ≠ (.slice Ao20 t332.length co20 : Value).ownBlock)) (rU HO327.out) hg hat); have n2_ := Aside0.mk (Kd.R_over' (rU HO331.out) (Kd.R_typed (rU HO341.out)) (by decide) hg); have n3_ := Aside0.mk (Kd.R_after (ok := (fun k_ => some k_ ≠ (.slice Ao18 t325.length co18 : Value).ownBlock)) (rU HO334.out) hg hat); have n4_ := Aside0.mk (hb); have n5_ := Aside0.mk (ho); clear HO324; clear HO327; clear HO331; clear HO334; clear HB; clear HO341; have HO324 := n0_; have HO327 := n1_; have HO331 := n2_; have HO334 := n3_; have HB := n4_; have HO344 := n5_; clear n0_ n1_ n2_ n3_ n4_ n5_; clear ho hb hg hat))
   go_ret
   exact ⟨_, by first | rfl | (simp [errW_none, errW_some] <;> rfl) | (simp [*, errW_none, errW_some] <;> rfl), by (with_reducible repeat (first | apply Kd.R_alloc | apply Kd.R_drewN | apply Kd.R_drew)); exact Kd.R_mono HO344.out (fun _ hk => trivial), by repeat (first | (with_reducible first | exact HB.out | apply below_alloc | apply pw_below_drewN | apply below_drew1) | exact HB.out)⟩
  ·rw [if_neg c8] at H
   exact absurd H (by simp)
 ·rw [if_neg c7] at H
  exact absurd H (by simp)

/-! ### incunablelaw06_RunsRunBits: function 3 -/
def incunablelaw06_RunsRunBits.j0 : Nat → Int → Int → List Int → Int → Bool → Option (Bool)
 | 0, _, _, _, _, _ => none
 | k + 1, x0, x1, x5, x6, x26 => if x26 = true then (if (x5.length : Int) = 0 then (if x6 = 2 then ((incunablelaw06_Awake.f k).bind fun t349 => (some t349)) else (some false)) else (some false)) else (if x6 = 0 then ((incunableref06_RunBits.f k x0 x1).bind fun t350 => ((incunableref02_SameBytes.f k x5 t350).bind fun t353 => (if t353 = true then ((incunablelaw06_Awake.f k).bind fun t354 => (some t354)) else (some false)))) else (some false))
def incunablelaw06_RunsRunBits.f (k : Nat) (a0 : Int) (a1 : Int) : Option (Bool) := (runs_RunBits.f k a0 a1).bind fun bt345 => (if a0 < 0 then (incunablelaw06_RunsRunBits.j0 k a0 a1 bt345.1 bt345.2 true) else (if a0 > 200 then (incunablelaw06_RunsRunBits.j0 k a0 a1 bt345.1 bt345.2 true) else (if a1 = 0 then (incunablelaw06_RunsRunBits.j0 k a0 a1 bt345.1 bt345.2 false) else (incunablelaw06_RunsRunBits.j0 k a0 a1 bt345.1 bt345.2 (a1 != 1)))))
theorem incunablelaw06_RunsRunBits.mono_l : ∀ k, (∀ y0 y1 y2 y3 y4, LeO (incunablelaw06_RunsRunBits.j0 k y0 y1 y2 y3 y4) (incunablelaw06_RunsRunBits.j0 (k + 1) y0 y1 y2 y3 y4))
 | 0 => fun _ _ _ _ _ r h => by simp [incunablelaw06_RunsRunBits.j0] at h
 | k + 1 => by
  have ih0 := incunablelaw06_RunsRunBits.mono_l k
  ·intro y0 y1 y2 y3 y4
   unfold incunablelaw06_RunsRunBits.j0
   repeat' first
   | (with_reducible exact ih0 _ _ _ _ _)
   | (with_reducible exact incunablelaw06_Awake.mono _)
   | (with_reducible exact incunableref02_SameBytes.mono _ _ _)
   | (with_reducible exact incunableref06_RunBits.mono _ _ _)
   | (with_reducible exact runs_RunBits.mono _ _ _)
   | (with_reducible exact LeO.refl _)
   | (with_reducible exact LeO.none _)
   | (with_reducible refine LeO.ite ?_ ?_)
   | (with_reducible refine LeO.bind ?_ (fun _ => ?_))
   | exact ih0 _ _ _ _ _
   | exact incunablelaw06_Awake.mono _
   | exact incunableref02_SameBytes.mono _ _ _
   | exact incunableref06_RunBits.mono _ _ _
   | exact runs_RunBits.mono _ _ _
   | exact LeO.none _
   | refine LeO.ite ?_ ?_
   | refine LeO.bind ?_ (fun _ => ?_)
theorem incunablelaw06_RunsRunBits.mono : ∀ a0 a1 k, LeO (incunablelaw06_RunsRunBits.f k a0 a1) (incunablelaw06_RunsRunBits.f (k + 1) a0 a1) := by
 intro a0 a1 k
 have ih0 := incunablelaw06_RunsRunBits.mono_l k
 unfold incunablelaw06_RunsRunBits.f
 repeat' first
   | (with_reducible exact ih0 _ _ _ _ _)
   | (with_reducible exact incunablelaw06_Awake.mono _)
   | (with_reducible exact incunableref02_SameBytes.mono _ _ _)
   | (with_reducible exact incunableref06_RunBits.mono _ _ _)
   | (with_reducible exact runs_RunBits.mono _ _ _)
   | (with_reducible exact LeO.refl _)
   | (with_reducible exact LeO.none _)
   | (with_reducible refine LeO.ite ?_ ?_)
   | (with_reducible refine LeO.bind ?_ (fun _ => ?_))
   | exact ih0 _ _ _ _ _
   | exact incunablelaw06_Awake.mono _
   | exact incunableref02_SameBytes.mono _ _ _
   | exact incunableref06_RunBits.mono _ _ _
   | exact runs_RunBits.mono _ _ _
   | exact LeO.none _
   | refine LeO.ite ?_ ?_
   | refine LeO.bind ?_ (fun _ => ?_)
set_option maxHeartbeats 8000000 in
set_option maxRecDepth 100000 in
theorem incunablelaw06_RunsRunBits.calls (k : Nat) (a0 : Int) (a1 : Int) (r : Bool) (w : World) (h : incunablelaw06_RunsRunBits.f k a0 a1 = some r) (hr_ : r = true) :
  Calls Tryd.prog 3 #[.int .i64 a0, .int .i64 a1] w fun e w' => e = .returned (.bool r) ∧ Below w.heap.size w w' := by
 have HR_ := Aside0.mk hr_
 clear hr_
 have HB := Aside0.mk (Below.refl w.heap.size w)
 have H : ((runs_RunBits.f k a0 a1).bind fun bt345 => (if a0 < 0 then (incunablelaw06_RunsRunBits.j0 k a0 a1 bt345.1 bt345.2 true) else (if a0 > 200 then (incunablelaw06_RunsRunBits.j0 k a0 a1 bt345.1 bt345.2 true) else (if a1 = 0 then (incunablelaw06_RunsRunBits.j0 k a0 a1 bt345.1 bt345.2 false) else (incunablelaw06_RunsRunBits.j0 k a0 a1 bt345.1 bt345.2 (a1 != 1)))))) = some r := h
 clear h
 replace H := Option.bind_eq_some_iff.mp H
 obtain ⟨⟨t345, t346⟩, A30, H⟩ := H
 replace H : (if a0 < 0 then (incunablelaw06_RunsRunBits.j0 k a0 a1 t345 t346 true) else (if a0 > 200 then (incunablelaw06_RunsRunBits.j0 k a0 a1 t345 t346 true) else (if a1 = 0 then (incunablelaw06_RunsRunBits.j0 k a0 a1 t345 t346 false) else (incunablelaw06_RunsRunBits.j0 k a0 a1 t345 t346 (a1 != 1))))) = some r := H
 have A3 := Aside0.mk A30
 clear A30
 have HC4 := Aside0.mk H
 clear H
 go_enter Tryd.func3, Tryd.ntmps3
 go_upto_region 2 with (first | ((with_reducible refine gate_callee (f := 12) rfl ?_); refine goesL_ (some 10) rfl rfl Tryd.func12 (by kernel_rfl) rfl #[.int .i64 a0, .int .i64 a1] rfl (by (try simp only [List.map_toArray, List.map_cons, List.map_nil]); first | done | rfl | (simp only [List.length_drop, List.length_take]; rfl)) ?_; (with_reducible refine (runs_RunBits.calls k a0 a1 t345 t346 _ A3.out).mono ?_); rintro e w5 ⟨v347, rfl, ho0, hb⟩; refine ⟨_, rfl, ?_⟩; have n0_ := Aside0.mk (Kd.R_lower ho0 (below_size (by repeat (first | (with_reducible first | exact HB.out | apply below_alloc | apply pw_below_drewN | apply below_drew1) | exact HB.out)))); have n1_ := Aside0.mk (below_step (by repeat (first | (with_reducible first | exact HB.out | apply below_alloc | apply pw_below_drewN | apply below_drew1) | exact HB.out)) hb); clear HB; have HO348 := n0_; have HB := n1_; clear n0_ n1_; (try clear hb); (try clear hb2); (try clear hk); (try clear hi); (try clear ho0)))
 (try simp only [Act.put, List.setIfInBounds_toArray, List.set_cons_zero, List.set_cons_succ])
 go_cut [26] (fun v26 wc => ∃ (kq : Nat) (x26_3 : Bool), v26 = .bool x26_3 ∧ Aside0 (incunablelaw06_RunsRunBits.j0 kq a0 a1 t345 t346 x26_3 = some r) ∧ Aside0 (kq ≤ k) ∧ Aside0 (Kd.R (Kd.int .u8) 5 wc w.heap.size (fun _ => True) v347 t345) ∧ Aside0 (Below w.heap.size w wc))
 case first =>
  have H := HC4.out
  clear HC4
  by_cases c6 : a0 < 0
  ·rw [if_pos c6] at H
   have c6b0 : decide (a0 < 0) = true := decide_eq_true c6
   clear c6
   (first | rw [c6b0] | (simp only [i64_w, i32_w]; rw [c6b0]) | skip)
   have H' := Aside0.mk H
   clear H
   go_wp2
   go_meet
   case rel => exact ⟨_, (true), (by first | rfl | (simp; done) | (simp [*]; done)), H', ⟨by first | omega | exact Nat.le_refl _⟩, ⟨by (with_reducible repeat (first | apply Kd.R_alloc | apply Kd.R_drewN | apply Kd.R_drew)); exact HO348.out⟩, ⟨by repeat (first | (with_reducible first | exact HB.out | apply below_alloc | apply pw_below_drewN | apply below_drew1) | exact HB.out)⟩⟩
  ·rw [if_neg c6] at H
   have c6b0 : decide (a0 < 0) = false := decide_eq_false c6
   clear c6
   (first | rw [c6b0] | (simp only [i64_w, i32_w]; rw [c6b0]) | skip)
   by_cases c7 : a0 > 200
   ·rw [if_pos c7] at H
    have c7b0 : decide (200 < a0) = true := decide_eq_true c7
    clear c7
    have H' := Aside0.mk H
    clear H
    go_wp2
    go_meet
    case rel => exact ⟨_, (true), (by first | rfl | (simp; done) | (simp [*]; done)), H', ⟨by first | omega | exact Nat.le_refl _⟩, ⟨by (with_reducible repeat (first | apply Kd.R_alloc | apply Kd.R_drewN | apply Kd.R_drew)); exact HO348.out⟩, ⟨by repeat (first | (with_reducible first | exact HB.out | apply below_alloc | apply pw_below_drewN | apply below_drew1) | exact HB.out)⟩⟩
   ·rw [if_neg c7] at H
    have c7b0 : decide (200 < a0) = false := decide_eq_false c7
    clear c7
    by_cases c8 : a1 = 0
    ·rw [if_pos c8] at H
     have c8b0 : (a1 == 0) = true := beq_iff_eq.mpr c8
     have c8b1 : (a1 != 0) = false := bne_eq_false_iff_eq.mpr c8
     clear c8
     have H' := Aside0.mk H
     clear H
     go_wp2
     go_meet
     case rel => exact ⟨_, (false), (by first | rfl | (simp; done) | (simp [*]; done)), H', ⟨by first | omega | exact Nat.le_refl _⟩, ⟨by (with_reducible repeat (first | apply Kd.R_alloc | apply Kd.R_drewN | apply Kd.R_drew)); exact HO348.out⟩, ⟨by repeat (first | (with_reducible first | exact HB.out | apply below_alloc | apply pw_below_drewN | apply below_drew1) | exact HB.out)⟩⟩
    ·rw [if_neg c8] at H
     have c8b0 : (a1 == 0) = false := beq_eq_false_iff_ne.mpr c8
     have c8b1 : (a1 != 0) = true := bne_iff_ne.mpr c8
     have H' := Aside0.mk H
     clear H
     go_wp2
     go_meet
     case rel => exact ⟨_, ((a1 != 1)), (by first | rfl | (simp; done) | (simp [*]; done)), H', ⟨by first | omega | exact Nat.le_refl _⟩, ⟨by (with_reducible repeat (first | apply Kd.R_alloc | apply Kd.R_drewN | apply Kd.R_drew)); exact HO348.out⟩, ⟨by repeat (first | (with_reducible first | exact HB.out | apply below_alloc | apply pw_below_drewN | apply below_drew1) | exact HB.out)⟩⟩
 case rest =>
  clear HC4
  try clear c1
  try clear p2
  try clear c3
  try clear c6
  try clear c6b0
  try clear c7
  try clear c7b0
  try clear c8
  try clear c8b0
  try clear c8b1
  obtain ⟨kq, x26_3, rfl, HA, HJ3, HO_5, HB⟩ := hcut
  cases kq with
  | zero => exact absurd HA.out (by simp [incunablelaw06_RunsRunBits.j0])
  | succ kj3 =>
   have H := HA.out
   clear HA
   simp only [incunablelaw06_RunsRunBits.j0] at H
   by_cases c9 : x26_3 = true
   ·subst c9
    have H1 : (if (t345.length : Int) = 0 then (if t346 = 2 then ((incunablelaw06_Awake.f kj3).bind fun t349 => (some t349)) else (some false)) else (some false)) = some r := by rw [if_pos rfl] at H; exact H
    clear H
    have H := H1
    clear H1
    by_cases c10 : (t345.length : Int) = 0
    ·rw [if_pos c10] at H
     have c10b0 : ((t345.length : Int) == 0) = true := beq_iff_eq.mpr c10
     have c10b1 : ((t345.length : Int) != 0) = false := bne_eq_false_iff_eq.mpr c10
     clear c10
     by_cases c11 : t346 = 2
     ·rw [if_pos c11] at H
      have c11b0 : (t346 == 2) = true := beq_iff_eq.mpr c11
      have c11b1 : (t346 != 2) = false := bne_eq_false_iff_eq.mpr c11
      clear c11
      replace H := Option.bind_eq_some_iff.mp H
      obtain ⟨t349, A120, H⟩ := H
      replace H : (some t349) = some r := H
      have A12 := Aside0.mk A120
      clear A120
      obtain rfl := Option.some.inj H
      obtain ⟨Ao13, co13, eo13⟩ := Kd.R_slice HO_5.out
      subst eo13
      go_wp2_with (first | (go_at_call 13; (with_reducible refine (incunablelaw06_Awake.calls kj3  t349 _ A12.out).mono ?_); rintro e w14 ⟨rfl, hb⟩; have n0_ := Aside0.mk (Kd.R_below (rU HO_5.out) hb); have n1_ := Aside0.mk (below_step (by repeat (first | (with_reducible first | exact HB.out | apply below_alloc | apply pw_below_drewN | apply below_drew1) | exact HB.out)) hb); clear HO_5; clear HB; have HO_5 := n0_; have HB := n1_; clear n0_ n1_; (try clear hb); (try clear hb2); (try clear hk); (try clear hi)))
      go_ret
      exact ⟨by first | rfl | (simp [errW_none, errW_some] <;> rfl) | (simp [*, errW_none, errW_some] <;> rfl), by repeat (first | (with_reducible first | exact HB.out | apply below_alloc | apply pw_below_drewN | apply below_drew1) | exact HB.out)⟩
     ·rw [if_neg c11] at H
      have c11b0 : (t346 == 2) = false := beq_eq_false_iff_ne.mpr c11
      have c11b1 : (t346 != 2) = true := bne_iff_ne.mpr c11
      exact absurd ((Option.some.inj H).trans HR_.out) (by decide)
    ·rw [if_neg c10] at H
     have c10b0 : ((t345.length : Int) == 0) = false := beq_eq_false_iff_ne.mpr c10
     have c10b1 : ((t345.length : Int) != 0) = true := bne_iff_ne.mpr c10
     have c10b2 : ¬ (t345 = []) := fun h_ => c10 (by rw [h_]; rfl)
     exact absurd ((Option.some.inj H).trans HR_.out) (by decide)
   ·replace c9 := Bool.eq_false_iff.mpr c9
    subst c9
    have H1 : (if t346 = 0 then ((incunableref06_RunBits.f kj3 a0 a1).bind fun t350 => ((incunableref02_SameBytes.f kj3 t345 t350).bind fun t353 => (if t353 = true then ((incunablelaw06_Awake.f kj3).bind fun t354 => (some t354)) else (some false)))) else (some false)) = some r := by rw [if_neg (show ¬ (false = true) by decide)] at H; exact H
    clear H
    have H := H1
    clear H1
    by_cases c15 : t346 = 0
    ·rw [if_pos c15] at H
     have c15b0 : (t346 == 0) = true := beq_iff_eq.mpr c15
     have c15b1 : (t346 != 0) = false := bne_eq_false_iff_eq.mpr c15
     clear c15
     replace H := Option.bind_eq_some_iff.mp H
     obtain ⟨t350, A160, H⟩ := H
     replace H : ((incunableref02_SameBytes.f kj3 t345 t350).bind fun t353 => (if t353 = true then ((incunablelaw06_Awake.f kj3).bind fun t354 => (some t354)) else (some false))) = some r := H
     have A16 := Aside0.mk A160
     clear A160
     replace H := Option.bind_eq_some_iff.mp H
     obtain ⟨t353, A170, H⟩ := H
     replace H : (if t353 = true then ((incunablelaw06_Awake.f kj3).bind fun t354 => (some t354)) else (some false)) = some r := H
     have A17 := Aside0.mk A170
     clear A170
     by_cases c18 : t353 = true
     ·subst c18
      have H1 : ((incunablelaw06_Awake.f kj3).bind fun t354 => (some t354)) = some r := by rw [if_pos rfl] at H; exact H
      clear H
      have H := H1
      clear H1
      replace H := Option.bind_eq_some_iff.mp H
      obtain ⟨t354, A190, H⟩ := H
      replace H : (some t354) = some r := H
      have A19 := Aside0.mk A190
      clear A190
      obtain rfl := Option.some.inj H
      go_wp2_with (first | (go_at_call 15; (with_reducible refine (incunableref06_RunBits.calls kj3 a0 a1 t350 _ A16.out).mono ?_); rintro e w20 ⟨v351, rfl, ho0, hb⟩; have n0_ := Aside0.mk (Kd.R_elder' (rU HO_5.out) (Kd.R_base ho0) hb); have n1_ := Aside0.mk (Kd.R_lower (Kd.R_new' ho0 (Kd.R_lt (rU HO_5.out))) (below_size (by repeat (first | (with_reducible first | exact HB.out | apply below_alloc | apply pw_below_drewN | apply below_drew1) | exact HB.out)))); have n2_ := Aside0.mk (below_step (by repeat (first | (with_reducible first | exact HB.out | apply below_alloc | apply pw_below_drewN | apply below_drew1) | exact HB.out)) hb); clear HO_5; clear HB; have HO_5 := n0_; have HO352 := n1_; have HB := n2_; clear n0_ n1_ n2_; (try clear hb); (try clear hb2); (try clear hk); (try clear hi); (try clear ho0); obtain ⟨Ao21, co21, eo21⟩ := Kd.R_slice HO_5.out; subst eo21; obtain ⟨Ao22, co22, eo22⟩ := Kd.R_slice HO352.out; subst eo22) | (go_at_call 14; (with_reducible refine (incunableref02_SameBytes.calls kj3 _ _ t345 _ _ t350 true _ ?side1 ?side2 ?side3 ?side4 A17.out).mono ?_); (case side1 => repeat (first | exact (Kd.R_reads' HO_5.out).2.2 | (with_reducible refine Kd.C_alloc ?_ _) | (with_reducible refine Kd.C_drewN ?_ _) | (with_reducible refine Kd.C_drew ?_))); (case side2 => exact (Kd.R_reads' HO_5.out).2.1); (case side3 => repeat (first | exact (Kd.R_reads' HO352.out).2.2 | (with_reducible refine Kd.C_alloc ?_ _) | (with_reducible refine Kd.C_drewN ?_ _) | (with_reducible refine Kd.C_drew ?_))); (case side4 => exact (Kd.R_reads' HO352.out).2.1); rintro e w' ⟨rfl, ⟨nd, rfl⟩⟩) | (go_at_call 13; (with_reducible refine (incunablelaw06_Awake.calls kj3  t354 _ A19.out).mono ?_); rintro e w23 ⟨rfl, hb⟩; have n0_ := Aside0.mk (Kd.R_below (rU HO_5.out) hb); have n1_ := Aside0.mk (Kd.R_below (rU HO352.out) hb); have n2_ := Aside0.mk (below_step (by repeat (first | (with_reducible first | exact HB.out | apply below_alloc | apply pw_below_drewN | apply below_drew1) | exact HB.out)) hb); clear HO_5; clear HO352; clear HB; have HO_5 := n0_; have HO352 := n1_; have HB := n2_; clear n0_ n1_ n2_; (try clear hb); (try clear hb2); (try clear hk); (try clear hi)))
      go_ret
      exact ⟨by first | rfl | (simp [errW_none, errW_some] <;> rfl) | (simp [*, errW_none, errW_some] <;> rfl), by repeat (first | (with_reducible first | exact HB.out | apply below_alloc | apply pw_below_drewN | apply below_drew1) | exact HB.out)⟩
     ·replace c18 := Bool.eq_false_iff.mpr c18
      subst c18
      have H1 : (some false) = some r := by rw [if_neg (show ¬ (false = true) by decide)] at H; exact H
      clear H
      have H := H1
      clear H1
      exact absurd ((Option.some.inj H).trans HR_.out) (by decide)
    ·rw [if_neg c15] at H
     have c15b0 : (t346 == 0) = false := beq_eq_false_iff_ne.mpr c15
     have c15b1 : (t346 != 0) = true := bne_iff_ne.mpr c15
     exact absurd ((Option.some.inj H).trans HR_.out) (by decide)

/-- THE ONE PURE STATEMENT of incunablelaw06_RunsRunBits: yours. -/
def incunablelaw06_RunsRunBits.Pure : Prop := ∀ (a0 : Int) (a1 : Int), ((Lit.int .i64 a0).wf = true) → ((Lit.int .i64 a1).wf = true) → ∃ k, incunablelaw06_RunsRunBits.f k a0 a1 = some true
theorem incunablelaw06_RunsRunBits.walk (P : incunablelaw06_RunsRunBits.Pure) (a0 : Int) (a1 : Int) (w : World)  (g0 : (Lit.int .i64 a0).wf = true) (g1 : (Lit.int .i64 a1).wf = true) :
  Calls Tryd.prog 3 #[.int .i64 a0, .int .i64 a1] w fun e w' => e = .returned (.bool true) ∧ Below w.heap.size w w' := by
 obtain ⟨k, h⟩ := P a0 a1 g0 g1
 refine (incunablelaw06_RunsRunBits.calls k a0 a1 true w h rfl).mono ?_
 rintro e w' ⟨rfl, hd⟩
 exact ⟨rfl, hd⟩

end Go.Proofs.YtknclbodinfbeaaDoor.PRunsRunBits
