-- printed (wip/tools/myprint.py)
import Derived.Test.YtknclbodinfbeaaDoorPRunsSamex0
import Derived.Test.YtknclbodinfbeaaDoorPRunsSamex12
namespace Go.Proofs.YtknclbodinfbeaaDoor.PRunsSame
open Go.RowKit Go.Proofs.YtknclbodinfbeaaDoorW.PrintWords Go.Proofs.YtknclbodinfbeaaDoorW.PrintLast Go.Proofs.YtknclbodinfbeaaDoorW.PrintMore
attribute [local go_sem] yf yc yD yE xV xU ye yh
set_option linter.unusedVariables false
set_option linter.unusedSimpArgs false
def yd.f (a0 : Int) : Option ((List (xc))) := if a0 = 0 then (some (([(⟨1, 0, 0, 0⟩ : xc), (⟨2, 1, 1, 0⟩ : xc), (⟨3, 3, 3, 0⟩ : xc), (⟨4, 5, 11, 0⟩ : xc), (⟨5, 8, 43, 0⟩ : xc), (⟨5, 20, 299, 0⟩ : xc)] : List (xc)))) else (if a0 = 1 then (some (([(⟨1, 2, 0, 0⟩ : xc), (⟨2, 4, 4, 0⟩ : xc), (⟨3, 8, 20, 0⟩ : xc), (⟨4, 20, (-1), 1⟩ : xc), (⟨4, 0, 0, 2⟩ : xc)] : List (xc)))) else (if a0 = 2 then (some (([(⟨1, 0, 0, 0⟩ : xc), (⟨3, 2, 1, 0⟩ : xc), (⟨3, 2, (-1), 1⟩ : xc), (⟨3, 20, 5, 0⟩ : xc), (⟨3, 20, (-5), 1⟩ : xc)] : List (xc)))) else (some ([] : List (xc)))))
set_option maxHeartbeats 8000000 in
set_option maxRecDepth 100000 in
theorem yd.calls (a0 : Int) (r : List (xc)) (w : World) (h : yd.f a0 = some r) :
  Calls Tryd.prog 38 #[.int .i64 a0] w fun e w' => ∃ v0_ : Value, e = .returned (v0_) ∧ Kd.R zh 87 w' w.heap.size (fun _ => True) v0_ r ∧ Below w.heap.size w w' := by
 have hu87 := Tryd.underlying87
 have HB := Aside0.mk (Below.refl w.heap.size w)
 have H := h
 unfold yd.f at H
 clear h
 rcases iE H with H1 | H1 <;> clear H <;> obtain ⟨H, c2b0, c2b1, c2⟩ := H1
 ·obtain ⟨y385, hy_⟩ : ∃ y_ : List (xc), y_ = (([(⟨1, 0, 0, 0⟩ : xc), (⟨2, 1, 1, 0⟩ : xc), (⟨3, 3, 3, 0⟩ : xc), (⟨4, 5, 11, 0⟩ : xc), (⟨5, 8, 43, 0⟩ : xc), (⟨5, 20, 299, 0⟩ : xc)] : List (xc))) := ⟨_, rfl⟩
  replace H : (some y385) = some r := rh
  have Ny385 := aE hy_
  clear hy_
  obtain rfl := Option.some.inj H
  go_enter Tryd.func38, Tryd.ntmps38
  go_wp2_with (first | ((with_reducible refine gd 12 rfl ?_); refine Kd.zV zh _ 87 ?hg (N := 12) ?hd (xs := ([(⟨1, 0, 0, 0⟩ : xc), (⟨2, 1, 1, 0⟩ : xc), (⟨3, 3, 3, 0⟩ : xc), (⟨4, 5, 11, 0⟩ : xc), (⟨5, 8, 43, 0⟩ : xc), (⟨5, 20, 299, 0⟩ : xc)] : List (xc))) (inner := [.int .i64 1, .int .i64 0, .int .i64 0, .int .i64 0, .int .i64 2, .int .i64 1, .int .i64 1, .int .i64 0, .int .i64 3, .int .i64 3, .int .i64 3, .int .i64 0, .int .i64 4, .int .i64 5, .int .i64 11, .int .i64 0, .int .i64 5, .int .i64 8, .int .i64 43, .int .i64 0, .int .i64 5, .int .i64 20, .int .i64 299, .int .i64 0]) (ok := fun _ => True) (okp := fun _ => True) ?hr ?hp (fun _ hk => hk) trivial (Below.refl _ _) (Nat.le_refl _) (by simp) ?_; (case hd => rfl); (case hg => rfl); (case hr => first | (go_simp; done) | (go_simp; rfl)); (case hp => exact (wX.c4 (show Kd.M zh _ _ _ (⟨1, 0, 0, 0⟩ : xc) [.int .i64 1, .int .i64 0, .int .i64 0, .int .i64 0] from (xH _ _ _ (⟨1, 0, 0, 0⟩ : xc) )) (wX.c4 (show Kd.M zh _ _ _ (⟨2, 1, 1, 0⟩ : xc) [.int .i64 2, .int .i64 1, .int .i64 1, .int .i64 0] from (xH _ _ _ (⟨2, 1, 1, 0⟩ : xc) )) (wX.c4 (show Kd.M zh _ _ _ (⟨3, 3, 3, 0⟩ : xc) [.int .i64 3, .int .i64 3, .int .i64 3, .int .i64 0] from (xH _ _ _ (⟨3, 3, 3, 0⟩ : xc) )) (wX.c4 (show Kd.M zh _ _ _ (⟨4, 5, 11, 0⟩ : xc) [.int .i64 4, .int .i64 5, .int .i64 11, .int .i64 0] from (xH _ _ _ (⟨4, 5, 11, 0⟩ : xc) )) (wX.c4 (show Kd.M zh _ _ _ (⟨5, 8, 43, 0⟩ : xc) [.int .i64 5, .int .i64 8, .int .i64 43, .int .i64 0] from (xH _ _ _ (⟨5, 8, 43, 0⟩ : xc) )) (wX.c4 (show Kd.M zh _ _ _ (⟨5, 20, 299, 0⟩ : xc) [.int .i64 5, .int .i64 20, .int .i64 299, .int .i64 0] from (xH _ _ _ (⟨5, 20, 299, 0⟩ : xc) )) (wX.none _ _)))))))); intro v386 w3 ho4 hb hg_ hnew_; clear hg_ hnew_; (first | rw [← Ny385.out] at ho4 | (simp only [Int.reduceToNat] at ho4; rw [← Ny385.out] at ho4)); have n_ := aC (Kd.vX ho4 bz) (aE (bs hb)); clear HB; obtain ⟨HO387, HB⟩ := n_; clear hb ho4))
  go_ret
  exact ⟨_, re, rU HO387.out, bl⟩
 ·rcases iE H with H1 | H1 <;> clear H <;> obtain ⟨H, c5b0, c5b1, c5⟩ := H1
  ·obtain ⟨y388, hy_⟩ : ∃ y_ : List (xc), y_ = (([(⟨1, 2, 0, 0⟩ : xc), (⟨2, 4, 4, 0⟩ : xc), (⟨3, 8, 20, 0⟩ : xc), (⟨4, 20, (-1), 1⟩ : xc), (⟨4, 0, 0, 2⟩ : xc)] : List (xc))) := ⟨_, rfl⟩
   replace H : (some y388) = some r := rh
   have Ny388 := aE hy_
   clear hy_
   obtain rfl := Option.some.inj H
   go_enter Tryd.func38, Tryd.ntmps38
   go_wp2_with (first | ((with_reducible refine gd 20 rfl ?_); refine Kd.zV zh _ 87 ?hg (N := 20) ?hd (xs := ([(⟨1, 2, 0, 0⟩ : xc), (⟨2, 4, 4, 0⟩ : xc), (⟨3, 8, 20, 0⟩ : xc), (⟨4, 20, (-1), 1⟩ : xc), (⟨4, 0, 0, 2⟩ : xc)] : List (xc))) (inner := [.int .i64 1, .int .i64 2, .int .i64 0, .int .i64 0, .int .i64 2, .int .i64 4, .int .i64 4, .int .i64 0, .int .i64 3, .int .i64 8, .int .i64 20, .int .i64 0, .int .i64 4, .int .i64 20, .int .i64 (-1), .int .i64 1, .int .i64 4, .int .i64 0, .int .i64 0, .int .i64 2]) (ok := fun _ => True) (okp := fun _ => True) ?hr ?hp (fun _ hk => hk) trivial (Below.refl _ _) (Nat.le_refl _) (by simp) ?_; (case hd => rfl); (case hg => rfl); (case hr => first | (go_simp; done) | (go_simp; rfl)); (case hp => exact (wX.c4 (show Kd.M zh _ _ _ (⟨1, 2, 0, 0⟩ : xc) [.int .i64 1, .int .i64 2, .int .i64 0, .int .i64 0] from (xH _ _ _ (⟨1, 2, 0, 0⟩ : xc) )) (wX.c4 (show Kd.M zh _ _ _ (⟨2, 4, 4, 0⟩ : xc) [.int .i64 2, .int .i64 4, .int .i64 4, .int .i64 0] from (xH _ _ _ (⟨2, 4, 4, 0⟩ : xc) )) (wX.c4 (show Kd.M zh _ _ _ (⟨3, 8, 20, 0⟩ : xc) [.int .i64 3, .int .i64 8, .int .i64 20, .int .i64 0] from (xH _ _ _ (⟨3, 8, 20, 0⟩ : xc) )) (wX.c4 (show Kd.M zh _ _ _ (⟨4, 20, (-1), 1⟩ : xc) [.int .i64 4, .int .i64 20, .int .i64 (-1), .int .i64 1] from (xH _ _ _ (⟨4, 20, (-1), 1⟩ : xc) )) (wX.c4 (show Kd.M zh _ _ _ (⟨4, 0, 0, 2⟩ : xc) [.int .i64 4, .int .i64 0, .int .i64 0, .int .i64 2] from (xH _ _ _ (⟨4, 0, 0, 2⟩ : xc) )) (wX.none _ _))))))); intro v389 w6 ho7 hb hg_ hnew_; clear hg_ hnew_; (first | rw [← Ny388.out] at ho7 | (simp only [Int.reduceToNat] at ho7; rw [← Ny388.out] at ho7)); have n_ := aC (Kd.vX ho7 bz) (aE (bs hb)); clear HB; obtain ⟨HO390, HB⟩ := n_; clear hb ho7))
   go_ret
   exact ⟨_, re, rU HO390.out, bl⟩
  ·rcases iE H with H1 | H1 <;> clear H <;> obtain ⟨H, c8b0, c8b1, c8⟩ := H1
   ·obtain ⟨y391, hy_⟩ : ∃ y_ : List (xc), y_ = (([(⟨1, 0, 0, 0⟩ : xc), (⟨3, 2, 1, 0⟩ : xc), (⟨3, 2, (-1), 1⟩ : xc), (⟨3, 20, 5, 0⟩ : xc), (⟨3, 20, (-5), 1⟩ : xc)] : List (xc))) := ⟨_, rfl⟩
    replace H : (some y391) = some r := rh
    have Ny391 := aE hy_
    clear hy_
    obtain rfl := Option.some.inj H
    go_enter Tryd.func38, Tryd.ntmps38
    go_wp2_with (first | ((with_reducible refine gd 28 rfl ?_); refine Kd.zV zh _ 87 ?hg (N := 28) ?hd (xs := ([(⟨1, 0, 0, 0⟩ : xc), (⟨3, 2, 1, 0⟩ : xc), (⟨3, 2, (-1), 1⟩ : xc), (⟨3, 20, 5, 0⟩ : xc), (⟨3, 20, (-5), 1⟩ : xc)] : List (xc))) (inner := [.int .i64 1, .int .i64 0, .int .i64 0, .int .i64 0, .int .i64 3, .int .i64 2, .int .i64 1, .int .i64 0, .int .i64 3, .int .i64 2, .int .i64 (-1), .int .i64 1, .int .i64 3, .int .i64 20, .int .i64 5, .int .i64 0, .int .i64 3, .int .i64 20, .int .i64 (-5), .int .i64 1]) (ok := fun _ => True) (okp := fun _ => True) ?hr ?hp (fun _ hk => hk) trivial (Below.refl _ _) (Nat.le_refl _) (by simp) ?_; (case hd => rfl); (case hg => rfl); (case hr => first | (go_simp; done) | (go_simp; rfl)); (case hp => exact (wX.c4 (show Kd.M zh _ _ _ (⟨1, 0, 0, 0⟩ : xc) [.int .i64 1, .int .i64 0, .int .i64 0, .int .i64 0] from (xH _ _ _ (⟨1, 0, 0, 0⟩ : xc) )) (wX.c4 (show Kd.M zh _ _ _ (⟨3, 2, 1, 0⟩ : xc) [.int .i64 3, .int .i64 2, .int .i64 1, .int .i64 0] from (xH _ _ _ (⟨3, 2, 1, 0⟩ : xc) )) (wX.c4 (show Kd.M zh _ _ _ (⟨3, 2, (-1), 1⟩ : xc) [.int .i64 3, .int .i64 2, .int .i64 (-1), .int .i64 1] from (xH _ _ _ (⟨3, 2, (-1), 1⟩ : xc) )) (wX.c4 (show Kd.M zh _ _ _ (⟨3, 20, 5, 0⟩ : xc) [.int .i64 3, .int .i64 20, .int .i64 5, .int .i64 0] from (xH _ _ _ (⟨3, 20, 5, 0⟩ : xc) )) (wX.c4 (show Kd.M zh _ _ _ (⟨3, 20, (-5), 1⟩ : xc) [.int .i64 3, .int .i64 20, .int .i64 (-5), .int .i64 1] from (xH _ _ _ (⟨3, 20, (-5), 1⟩ : xc) )) (wX.none _ _))))))); intro v392 w9 ho10 hb hg_ hnew_; clear hg_ hnew_; (first | rw [← Ny391.out] at ho10 | (simp only [Int.reduceToNat] at ho10; rw [← Ny391.out] at ho10)); have n_ := aC (Kd.vX ho10 bz) (aE (bs hb)); clear HB; obtain ⟨HO393, HB⟩ := n_; clear hb ho10))
    go_ret
    exact ⟨_, re, rU HO393.out, bl⟩
   ·obtain rfl := Option.some.inj H
    go_enter Tryd.func38, Tryd.ntmps38
    go_wp2
    go_ret
    exact ⟨_, re, by first | exact Kd.yC _ _ _ _ _ | exact Kd.za _ _ _ _ _ | exact Kd.y9 _ _ _ _ _ | exact Kd.zb _ _ _ _ _ | exact Kd.yZ _ _ _ _ _, bl⟩
def yA.f (a0 : Int) : Option ((List (xc))) := if a0 = 0 then (some (([(⟨2, 2, 0, 0⟩ : xc), (⟨2, 3, 4, 0⟩ : xc), (⟨2, 4, 12, 0⟩ : xc), (⟨2, 6, 28, 0⟩ : xc)] : List (xc)))) else (some (([(⟨1, 1, 0, 0⟩ : xc), (⟨2, 1, 2, 0⟩ : xc), (⟨3, 2, 4, 0⟩ : xc), (⟨3, 6, 8, 0⟩ : xc)] : List (xc))))
set_option maxHeartbeats 8000000 in
set_option maxRecDepth 100000 in
theorem yA.calls (a0 : Int) (r : List (xc)) (w : World) (h : yA.f a0 = some r) :
  Calls Tryd.prog 39 #[.int .i64 a0] w fun e w' => ∃ v0_ : Value, e = .returned (v0_) ∧ Kd.R zh 87 w' w.heap.size (fun _ => True) v0_ r ∧ Below w.heap.size w w' := by
 have hu87 := Tryd.underlying87
 have HB := Aside0.mk (Below.refl w.heap.size w)
 have H := h
 unfold yA.f at H
 clear h
 rcases iE H with H1 | H1 <;> clear H <;> obtain ⟨H, c2b0, c2b1, c2⟩ := H1
 ·obtain ⟨y394, hy_⟩ : ∃ y_ : List (xc), y_ = (([(⟨2, 2, 0, 0⟩ : xc), (⟨2, 3, 4, 0⟩ : xc), (⟨2, 4, 12, 0⟩ : xc), (⟨2, 6, 28, 0⟩ : xc)] : List (xc))) := ⟨_, rfl⟩
  replace H : (some y394) = some r := rh
  have Ny394 := aE hy_
  clear hy_
  obtain rfl := Option.some.inj H
  go_enter Tryd.func39, Tryd.ntmps39
  go_wp2_with (first | ((with_reducible refine gd 9 rfl ?_); refine Kd.zV zh _ 87 ?hg (N := 9) ?hd (xs := ([(⟨2, 2, 0, 0⟩ : xc), (⟨2, 3, 4, 0⟩ : xc), (⟨2, 4, 12, 0⟩ : xc), (⟨2, 6, 28, 0⟩ : xc)] : List (xc))) (inner := [.int .i64 2, .int .i64 2, .int .i64 0, .int .i64 0, .int .i64 2, .int .i64 3, .int .i64 4, .int .i64 0, .int .i64 2, .int .i64 4, .int .i64 12, .int .i64 0, .int .i64 2, .int .i64 6, .int .i64 28, .int .i64 0]) (ok := fun _ => True) (okp := fun _ => True) ?hr ?hp (fun _ hk => hk) trivial (Below.refl _ _) (Nat.le_refl _) (by simp) ?_; (case hd => rfl); (case hg => rfl); (case hr => first | (go_simp; done) | (go_simp; rfl)); (case hp => exact (wX.c4 (show Kd.M zh _ _ _ (⟨2, 2, 0, 0⟩ : xc) [.int .i64 2, .int .i64 2, .int .i64 0, .int .i64 0] from (xH _ _ _ (⟨2, 2, 0, 0⟩ : xc) )) (wX.c4 (show Kd.M zh _ _ _ (⟨2, 3, 4, 0⟩ : xc) [.int .i64 2, .int .i64 3, .int .i64 4, .int .i64 0] from (xH _ _ _ (⟨2, 3, 4, 0⟩ : xc) )) (wX.c4 (show Kd.M zh _ _ _ (⟨2, 4, 12, 0⟩ : xc) [.int .i64 2, .int .i64 4, .int .i64 12, .int .i64 0] from (xH _ _ _ (⟨2, 4, 12, 0⟩ : xc) )) (wX.c4 (show Kd.M zh _ _ _ (⟨2, 6, 28, 0⟩ : xc) [.int .i64 2, .int .i64 6, .int .i64 28, .int .i64 0] from (xH _ _ _ (⟨2, 6, 28, 0⟩ : xc) )) (wX.none _ _)))))); intro v395 w3 ho4 hb hg_ hnew_; clear hg_ hnew_; (first | rw [← Ny394.out] at ho4 | (simp only [Int.reduceToNat] at ho4; rw [← Ny394.out] at ho4)); have n_ := aC (Kd.vX ho4 bz) (aE (bs hb)); clear HB; obtain ⟨HO396, HB⟩ := n_; clear hb ho4))
  go_ret
  exact ⟨_, re, rU HO396.out, bl⟩
 ·obtain ⟨y397, hy_⟩ : ∃ y_ : List (xc), y_ = (([(⟨1, 1, 0, 0⟩ : xc), (⟨2, 1, 2, 0⟩ : xc), (⟨3, 2, 4, 0⟩ : xc), (⟨3, 6, 8, 0⟩ : xc)] : List (xc))) := ⟨_, rfl⟩
  replace H : (some y397) = some r := rh
  have Ny397 := aE hy_
  clear hy_
  obtain rfl := Option.some.inj H
  go_enter Tryd.func39, Tryd.ntmps39
  go_wp2_with (first | ((with_reducible refine gd 14 rfl ?_); refine Kd.zV zh _ 87 ?hg (N := 14) ?hd (xs := ([(⟨1, 1, 0, 0⟩ : xc), (⟨2, 1, 2, 0⟩ : xc), (⟨3, 2, 4, 0⟩ : xc), (⟨3, 6, 8, 0⟩ : xc)] : List (xc))) (inner := [.int .i64 1, .int .i64 1, .int .i64 0, .int .i64 0, .int .i64 2, .int .i64 1, .int .i64 2, .int .i64 0, .int .i64 3, .int .i64 2, .int .i64 4, .int .i64 0, .int .i64 3, .int .i64 6, .int .i64 8, .int .i64 0]) (ok := fun _ => True) (okp := fun _ => True) ?hr ?hp (fun _ hk => hk) trivial (Below.refl _ _) (Nat.le_refl _) (by simp) ?_; (case hd => rfl); (case hg => rfl); (case hr => first | (go_simp; done) | (go_simp; rfl)); (case hp => exact (wX.c4 (show Kd.M zh _ _ _ (⟨1, 1, 0, 0⟩ : xc) [.int .i64 1, .int .i64 1, .int .i64 0, .int .i64 0] from (xH _ _ _ (⟨1, 1, 0, 0⟩ : xc) )) (wX.c4 (show Kd.M zh _ _ _ (⟨2, 1, 2, 0⟩ : xc) [.int .i64 2, .int .i64 1, .int .i64 2, .int .i64 0] from (xH _ _ _ (⟨2, 1, 2, 0⟩ : xc) )) (wX.c4 (show Kd.M zh _ _ _ (⟨3, 2, 4, 0⟩ : xc) [.int .i64 3, .int .i64 2, .int .i64 4, .int .i64 0] from (xH _ _ _ (⟨3, 2, 4, 0⟩ : xc) )) (wX.c4 (show Kd.M zh _ _ _ (⟨3, 6, 8, 0⟩ : xc) [.int .i64 3, .int .i64 6, .int .i64 8, .int .i64 0] from (xH _ _ _ (⟨3, 6, 8, 0⟩ : xc) )) (wX.none _ _)))))); intro v398 w5 ho6 hb hg_ hnew_; clear hg_ hnew_; (first | rw [← Ny397.out] at ho6 | (simp only [Int.reduceToNat] at ho6; rw [← Ny397.out] at ho6)); have n_ := aC (Kd.vX ho6 bz) (aE (bs hb)); clear HB; obtain ⟨HO399, HB⟩ := n_; clear hb ho6))
  go_ret
  exact ⟨_, re, rU HO399.out, bl⟩
def wo.f (k : Nat) (a0 : Int) (a1 : Int) : Option (List Int) := (yd.f 0).bind fun t400 => ((vr.f k t400 false (wrap64 (Int.tdiv a0 64))).bind fun bt403 => ((yA.f a1).bind fun t407 => ((vr.f k t407 false (Int.tmod a0 64)).bind fun bt410 => ((some (([] : List Int) : List Int)).bind fun y414 => (if y414.length + bt403.1.length < 140737488355328 then ((some (y414 ++ bt403.1 : List Int)).bind fun y417 => (if y417.length + bt410.1.length < 140737488355328 then (some (y417 ++ bt410.1)) else (none))) else (none))))))
theorem wo.mono : ∀ a0 a1 k, vP (wo.f k a0 a1) (wo.f (k + 1) a0 a1) := by
 intro a0 a1 k
 unfold wo.f
 repeat' first
   | (with_reducible exact vr.mono _ _ _ _)
   | (with_reducible first | exact vP.refl _ | exact vP.none _ | apply vP.ite | refine vP.bind ?_ fun _ => ?_)
set_option maxHeartbeats 8000000 in
set_option maxRecDepth 100000 in
theorem wo.calls (k : Nat) (a0 : Int) (a1 : Int) (r : List Int) (w : World) (h : wo.f k a0 a1 = some r) :
  Calls Tryd.prog 15 #[.int .i64 a0, .int .i64 a1] w fun e w' => ∃ v0_ : Value, e = .returned (v0_) ∧ Kd.R (Kd.int .u8) 5 w' w.heap.size (fun _ => True) v0_ r ∧ Below w.heap.size w w' := by
 have hu64 := Tryd.underlying64
 have HB := Aside0.mk (Below.refl w.heap.size w)
 have H := h
 unfold wo.f at H
 clear h
 obtain ⟨t400, A3, H⟩ := oB H
 try dsimp only at H
 obtain ⟨⟨t403, t406⟩, A4, H⟩ := oB H
 try dsimp only at H
 obtain ⟨t407, A5, H⟩ := oB H
 try dsimp only at H
 obtain ⟨⟨t410, t413⟩, A6, H⟩ := oB H
 try dsimp only at H
 obtain ⟨y414, hy_⟩ : ∃ y_ : List Int, y_ = (([] : List Int)) := ⟨_, rfl⟩
 replace H : (if y414.length + t403.length < 140737488355328 then ((some (y414 ++ t403 : List Int)).bind fun y417 => (if y417.length + t410.length < 140737488355328 then (some (y417 ++ t410)) else (none))) else (none)) = some r := rh
 have Ny414 := aE hy_
 clear hy_
 by_cases c7 : y414.length + t403.length < 140737488355328
 ·rw [if_pos c7] at H
  have LMc7 := Aside0.mk c7
  clear c7
  obtain ⟨y417, hy_⟩ : ∃ y_ : List Int, y_ = (y414 ++ t403) := ⟨_, rfl⟩
  replace H : (if y417.length + t410.length < 140737488355328 then (some (y417 ++ t410)) else (none)) = some r := rh
  have Ny417 := aE hy_
  clear hy_
  by_cases c8 : y417.length + t410.length < 140737488355328
  ·rw [if_pos c8] at H
   have LMc8 := Aside0.mk c8
   clear c8
   obtain ⟨y420, hy_⟩ : ∃ y_ : List Int, y_ = (y417 ++ t410) := ⟨_, rfl⟩
   replace H : (some y420) = some r := rh
   have Ny420 := aE hy_
   clear hy_
   obtain rfl := Option.some.inj H
   go_enter Tryd.func15, Tryd.ntmps15
   go_wp2_with (first | (refine gF 38 10 Tryd.func38 #[.int .i64 0] rfl rfl ?_; (with_reducible refine (yd.calls 0 t400 _ A3.out).mono ?_); rintro e w9 ⟨v401, rfl, ho0, hb⟩; refine ⟨_, rfl, ?_⟩; have n_ := aC (Kd.vX ho0 bz) (aE (bs hb)); clear HB; obtain ⟨HO402, HB⟩ := n_; obtain ⟨Ao10, co10, eo10⟩ := Kd.wq HO402.out; subst eo10) | (refine gF 37 14 Tryd.func37 #[.slice Ao10 t400.length co10, .agg #[.bool false, .int .i64 (wrap64 (Int.tdiv a0 64))]] rfl rfl ?_; (with_reducible refine (vr.calls k _ _ t400 false (wrap64 (Int.tdiv a0 64)) t403 t406 _ ?side1 ?side2 A4.out).mono ?_); (case side1 => exact cU (Kd.R_reads' HO402.out).2.2); (case side2 => exact (Kd.R_reads' HO402.out).2.1); rintro e w11 ⟨v404, rfl, ho0, hb⟩; refine ⟨_, rfl, ?_⟩; have n_ := aC (Kd.vT (rU HO402.out) hb) (aC (Kd.vX ho0 bz) (aE (bs hb))); clear HO402 HB; obtain ⟨HO402, HO405, HB⟩ := n_) | (refine gF 39 19 Tryd.func39 #[.int .i64 a1] rfl rfl ?_; (with_reducible refine (yA.calls a1 t407 _ A5.out).mono ?_); rintro e w12 ⟨v408, rfl, ho0, hb⟩; refine ⟨_, rfl, ?_⟩; have n_ := aC (Kd.R_elder' (rU HO402.out) (Kd.xi ho0) hb) (aC (Kd.vT (rU HO405.out) hb) (aC (Kd.vX (Kd.R_new' ho0 (Kd.xX (rU HO402.out))) bz) (aE (bs hb)))); clear HO402 HO405 HB; obtain ⟨HO402, HO405, HO409, HB⟩ := n_; obtain ⟨Ao13, co13, eo13⟩ := Kd.wq HO409.out; subst eo13) | (refine gF 37 23 Tryd.func37 #[.slice Ao13 t407.length co13, .agg #[.bool false, .int .i64 (Int.tmod a0 64)]] rfl rfl ?_; (with_reducible refine (vr.calls k _ _ t407 false (Int.tmod a0 64) t410 t413 _ ?side1 ?side2 A6.out).mono ?_); (case side1 => exact cU (Kd.R_reads' HO409.out).2.2); (case side2 => exact (Kd.R_reads' HO409.out).2.1); rintro e w14 ⟨v411, rfl, ho0, hb⟩; refine ⟨_, rfl, ?_⟩; have n_ := aC (Kd.vT (rU HO402.out) hb) (aC (Kd.R_elder' (rU HO405.out) (Kd.xi ho0) hb) (aC (Kd.vT (rU HO409.out) hb) (aC (Kd.vX (Kd.R_new' ho0 (Kd.xX (rU HO405.out))) bz) (aE (bs hb))))); clear HO402 HO405 HO409 HB; obtain ⟨HO402, HO405, HO409, HO412, HB⟩ := n_) | ((with_reducible refine gd 26 rfl ?_); refine Kd.zV (Kd.int .u8) _ 5 ?hg (N := 26) ?hd (xs := ([] : List Int)) (inner := []) (ok := fun _ => True) (okp := fun _ => True) ?hr ?hp (fun _ hk => hk) trivial (Below.refl _ _) (Nat.le_refl _) (by simp) ?_; (case hd => rfl); (case hg => rfl); (case hr => first | (go_simp; done) | (go_simp; rfl)); (case hp => exact (wX.none _ _)); intro v415 w15 ho16 hb hg_ hnew_; clear hg_ hnew_; (first | rw [← Ny414.out] at ho16 | (simp only [Int.reduceToNat] at ho16; rw [← Ny414.out] at ho16)); have n_ := aC (Kd.vT (rU HO402.out) hb) (aC (Kd.R_elder' (rU HO405.out) (Kd.xi ho16) hb) (aC (Kd.vT (rU HO409.out) hb) (aC (Kd.R_elder' (rU HO412.out) (Kd.xi ho16) hb) (aC (Kd.vX (Kd.R_new' (Kd.R_new' ho16 (Kd.xX (rU HO405.out))) (Kd.xX (rU HO412.out))) bz) (aE (bs hb)))))); clear HO402 HO405 HO409 HO412 HB; obtain ⟨HO402, HO405, HO409, HO412, HO416, HB⟩ := n_; clear hb ho16; obtain ⟨Ao18, co18, eo18⟩ := Kd.wq HO405.out; subst eo18) | ((with_reducible refine xb (b := .append) (xs := #[.tmp 26, .tmp 27]) rfl ?_); at_builtin; refine Kd.xW (Kd.int .u8) (w0 := w) w.heap.size rfl (.tmp 26) (.tmp 27) 22 5 (.int .u8 0) 1 rfl Tryd.underlying22 info5 rfl (by decide) (by omega) v415 y414 t403 _ _ _ (fun k_ => some k_ ≠ (.slice Ao18 t403.length co18 : Value).ownBlock ∧ some k_ ≠ (v411 : Value).ownBlock) (fun _ => False) rfl rfl ?aO ?aR (fun _ _ h => h) (fun _ h => h.elim) ?aF ?aB ?aS ?aL ?_; (case aR => repeat (first | exact (Kd.R_reads' HO405.out).2.2 | (with_reducible refine Kd.yk ?_ _) | (with_reducible refine Kd.yj ?_ _) | (with_reducible refine Kd.yI ?_))); (case aB => exact bl); (case aF => exact (fun k_ hk => ⟨Kd.fresh' (Kd.xX (rU HO405.out)) k_ hk, Kd.fresh' (Kd.xX (rU HO412.out)) k_ hk⟩)); (case aO => exact (rU (Kd.vY HO416.out (fun _ hk => ⟨hk.1.2, hk.2⟩)))); (case aS => exact bz); (case aL => have := LMc7.out; omega); intro v418 w17 ho hb hg hat; rw [← Ny417.out] at ho; have n_ := aC (Kd.R_over' (rU HO402.out) (Kd.zB (rU HO416.out)) (by decide) hg) (aC (Kd.yU (ok := (fun k_ => some k_ ≠ (v411 : Value).ownBlock)) (rU (Kd.vY HO405.out (fun _ hk => ⟨hk.1.2, hk.2⟩))) hg hat) (aC (Kd.R_over' (rU HO409.out) (Kd.zB (rU HO416.out)) (by decide) hg) (aC (Kd.yU (ok := (fun k_ => some k_ ≠ (.slice Ao18 t403.length co18 : Value).ownBlock)) (rU (Kd.vY HO412.out (fun _ hk => ⟨hk.1.2, hk.2⟩))) hg hat) (aC hb (aE ho))))); clear HO402 HO405 HO409 HO412 HB HO416; obtain ⟨HO402, HO405, HO409, HO412, HB, HO419⟩ := n_; clear ho hb hg hat; obtain ⟨Ao20, co20, eo20⟩ := Kd.wq HO412.out; subst eo20) | ((with_reducible refine xb (b := .append) (xs := #[.tmp 28, .tmp 29]) rfl ?_); at_builtin; refine Kd.xW (Kd.int .u8) (w0 := w) w.heap.size rfl (.tmp 28) (.tmp 29) 22 5 (.int .u8 0) 1 rfl Tryd.underlying22 info5 rfl (by decide) (by omega) v418 y417 t410 _ _ _ (fun k_ => some k_ ≠ (.slice Ao18 t403.length co18 : Value).ownBlock ∧ some k_ ≠ (.slice Ao20 t410.length co20 : Value).ownBlock) (fun _ => False) rfl rfl ?aO ?aR (fun _ _ h => h) (fun _ h => h.elim) ?aF ?aB ?aS ?aL ?_; (case aR => repeat (first | exact (Kd.R_reads' HO412.out).2.2 | (with_reducible refine Kd.yk ?_ _) | (with_reducible refine Kd.yj ?_ _) | (with_reducible refine Kd.yI ?_))); (case aB => exact bl); (case aF => exact (fun k_ hk => ⟨Kd.fresh' (Kd.xX (rU HO405.out)) k_ hk, Kd.fresh' (Kd.xX (rU HO412.out)) k_ hk⟩)); (case aO => exact (rU HO419.out)); (case aS => exact bz); (case aL => have := LMc8.out; omega); intro v421 w19 ho hb hg hat; rw [← Ny420.out] at ho; have n_ := aC (Kd.R_over' (rU HO402.out) (Kd.zB (rU HO419.out)) (by decide) hg) (aC (Kd.yU (ok := (fun k_ => some k_ ≠ (.slice Ao20 t410.length co20 : Value).ownBlock)) (rU HO405.out) hg hat) (aC (Kd.R_over' (rU HO409.out) (Kd.zB (rU HO419.out)) (by decide) hg) (aC (Kd.yU (ok := (fun k_ => some k_ ≠ (.slice Ao18 t403.length co18 : Value).ownBlock)) (rU HO412.out) hg hat) (aC hb (aE ho))))); clear HO402 HO405 HO409 HO412 HB HO419; obtain ⟨HO402, HO405, HO409, HO412, HB, HO422⟩ := n_; clear ho hb hg hat))
   go_ret
   exact ⟨_, re, rU (Kd.vY HO422.out (fun _ hk => trivial)), bl⟩
  ·rw [if_neg c8] at H
   exact absurd H (by simp)
 ·rw [if_neg c7] at H
  exact absurd H (by simp)
def xg.f (l0 : List Int) (a1 : Int) : Option (Int) := if a1 < 0 then (some 0) else (if 0 ≤ a1 then (if a1 < (l0.length : Int) then (some (wrap64 (rd l0 a1))) else (none)) else (none))
set_option maxHeartbeats 8000000 in
set_option maxRecDepth 100000 in
theorem xg.calls (A0 : Option Addr) (c0 : Nat) (l0 : List Int) (a1 : Int) (r : Int) (w : World) (hr0 : Kd.C (Kd.int .u8) w A0 l0.length l0) (hc0 : l0.length ≤ c0) (h : xg.f l0 a1 = some r) :
  Calls Tryd.prog 91 #[.slice A0 l0.length c0, .int .i64 a1] w fun e w' => e = .returned (.int .i64 r) ∧ wa w w' := by
 have HR0 := Aside0.mk hr0
 have HC0 := Aside0.mk hc0
 clear hr0 hc0
 have H := h
 unfold xg.f at H
 clear h
 rcases iL H with H1 | H1 <;> clear H <;> obtain ⟨H, c3b0⟩ := H1
 ·obtain rfl := Option.some.inj H
  go_enter Tryd.func91, Tryd.ntmps91
  go_wp2
  go_ret
  exact ⟨by first | rfl | (simp; done) | (simp [*]; done), by repeat (first | exact wa.refl _ | apply wa.step)⟩
 ·by_cases c4 : 0 ≤ a1
  ·rw [if_pos c4] at H
   have c4b0 := decide_eq_true c4
   clear c4
   by_cases c5 : a1 < (l0.length : Int)
   ·rw [if_pos c5] at H
    have c5b0 := decide_eq_true c5
    clear c5
    obtain rfl := Option.some.inj H
    have p423 : 0 ≤ (a1 : Int) := dt
    have q423 : a1 < (l0.length : Int) := dt
    obtain ⟨ad423, e423, hx423_0⟩ := Kd.xL HR0.out a1 p423 q423
    cases e423
    replace p423 := eq_true p423
    replace q423 := eq_true q423
    go_enter Tryd.func91, Tryd.ntmps91
    go_wp2
    go_ret
    exact ⟨by first | rfl | (simp; done) | (simp [*]; done), by repeat (first | exact wa.refl _ | apply wa.step)⟩
   ·rw [if_neg c5] at H
    exact absurd H (by simp)
  ·rw [if_neg c4] at H
   exact absurd H (by simp)
def vK.l0 : Nat → List Int → Int → Int → Option (Int)
 | 0, _, _, _ => none
 | k + 1, x0, x2, x7 => if x7 < (x0.length : Int) then ((xg.f x0 x7).bind fun t424 => (if t424 = x2 then (vK.l0 k x0 x2 (wrap64 (x7 + 1))) else ((xg.f x0 (wrap64 (x7 - 1))).bind fun t425 => (if t425 = x2 then (some x7) else (vK.l0 k x0 x2 (wrap64 (x7 + 1))))))) else (some (x0.length : Int))
def vK.f (k : Nat) (l0 : List Int) (a1 : Int) (a2 : Int) : Option (Int) := vK.l0 k l0 a2 (wrap64 (a1 + 1))
theorem vK.wj : ∀ k, (∀ y0 y1 y2, vP (vK.l0 k y0 y1 y2) (vK.l0 (k + 1) y0 y1 y2))
 | 0 => fun _ _ _ r h => by simp [vK.l0] at h
 | k + 1 => by
  have ih0 := vK.wj k
  ·intro y0 y1 y2
   unfold vK.l0
   repeat' first
   | (with_reducible exact ih0 _ _ _)
   | (with_reducible first | exact vP.refl _ | exact vP.none _ | apply vP.ite | refine vP.bind ?_ fun _ => ?_)
theorem vK.mono : ∀ a0 a1 a2 k, vP (vK.f k a0 a1 a2) (vK.f (k + 1) a0 a1 a2) := by
 intro a0 a1 a2 k
 have ih0 := vK.wj k
 unfold vK.f
 repeat' first
   | (with_reducible exact ih0 _ _ _)
   | (with_reducible first | exact vP.refl _ | exact vP.none _ | apply vP.ite | refine vP.bind ?_ fun _ => ?_)
set_option maxHeartbeats 8000000 in
set_option maxRecDepth 100000 in
theorem vK.calls (k : Nat) (A0 : Option Addr) (c0 : Nat) (l0 : List Int) (a1 : Int) (a2 : Int) (r : Int) (w : World) (hr0 : Kd.C (Kd.int .u8) w A0 l0.length l0) (hc0 : l0.length ≤ c0) (h : vK.f k l0 a1 a2 = some r) :
  Calls Tryd.prog 69 #[.slice A0 l0.length c0, .int .i64 a1, .int .i64 a2] w fun e w' => e = .returned (.int .i64 r) ∧ wa w w' := by
 have HR0 := Aside0.mk hr0
 have HC0 := Aside0.mk hc0
 clear hr0 hc0
 have H : (vK.l0 k l0 a2 (wrap64 (a1 + 1))) = some r := h
 clear h
 have H' := Aside0.mk H
 clear H
 go_enter Tryd.func69, Tryd.ntmps69
 go_wp2
 go_loopg [7] k (fun kq v7 w' => ∃ (x7_1 : Int), v7 = .int .i64 x7_1 ∧ Aside0 (vK.l0 kq l0 a2 x7_1 = some r) ∧ Aside0 (kq ≤ k) ∧ wa w w')
 case atStart => exact ⟨(wrap64 (a1 + 1)), rq, H', ⟨Nat.le_refl _⟩, by repeat (first | exact wa.refl _ | apply wa.step)⟩
 case round =>
  clear H'
  obtain ⟨x7_1, rfl, HA, HK1, ⟨m1, rfl⟩⟩ := hrel
  cases gk with
  | zero => exact absurd HA.out (by simp [vK.l0])
  | succ k1 =>
   have H := HA.out
   clear HA
   simp only [vK.l0] at H
   rcases iL H with H1 | H1 <;> clear H <;> obtain ⟨H, c4b0⟩ := H1
   ·obtain ⟨t424, A5, H⟩ := oB H
    try dsimp only at H
    rcases iE H with H1 | H1 <;> clear H <;> obtain ⟨H, c6b0, c6b1, c6⟩ := H1
    ·have H' := Aside0.mk H
     clear H
     go_wp2_with (first | (refine gF 91 18 Tryd.func91 #[.slice A0 l0.length c0, .int .i64 x7_1] rfl rfl ?_; (with_reducible refine (xg.calls _ _ l0 x7_1 t424 _ ?side1 ?side2 A5.out).mono ?_); (case side1 => exact cU HR0.out); (case side2 => exact HC0.out); rintro e w' ⟨rfl, ⟨nd, rfl⟩⟩; refine ⟨_, rfl, ?_⟩))
     go_roundg k1
     case measure => have := HK1.out; omega
     case rel => exact ⟨(wrap64 (x7_1 + 1)), rq, H', ⟨by have := HK1.out; omega⟩, by repeat (first | exact wa.refl _ | apply wa.step)⟩
    ·obtain ⟨t425, A7, H⟩ := oB H
     try dsimp only at H
     rcases iE H with H1 | H1 <;> clear H <;> obtain ⟨H, c8b0, c8b1, c8⟩ := H1
     ·obtain rfl := Option.some.inj H
      go_wp2_with (first | (refine gF 91 18 Tryd.func91 #[.slice A0 l0.length c0, .int .i64 x7_1] rfl rfl ?_; (with_reducible refine (xg.calls _ _ l0 x7_1 t424 _ ?side1 ?side2 A5.out).mono ?_); (case side1 => exact cU HR0.out); (case side2 => exact HC0.out); rintro e w' ⟨rfl, ⟨nd, rfl⟩⟩; refine ⟨_, rfl, ?_⟩) | (go_at_call 91; (with_reducible refine (xg.calls _ _ l0 (wrap64 (x7_1 - 1)) t425 _ ?side1 ?side2 A7.out).mono ?_); (case side1 => exact cU HR0.out); (case side2 => exact HC0.out); rintro e w' ⟨rfl, ⟨nd, rfl⟩⟩))
      go_ret
      exact ⟨by first | rfl | (simp; done) | (simp [*]; done), by repeat (first | exact wa.refl _ | apply wa.step)⟩
     ·have H' := Aside0.mk H
      clear H
      go_wp2_with (first | (refine gF 91 18 Tryd.func91 #[.slice A0 l0.length c0, .int .i64 x7_1] rfl rfl ?_; (with_reducible refine (xg.calls _ _ l0 x7_1 t424 _ ?side1 ?side2 A5.out).mono ?_); (case side1 => exact cU HR0.out); (case side2 => exact HC0.out); rintro e w' ⟨rfl, ⟨nd, rfl⟩⟩; refine ⟨_, rfl, ?_⟩) | (go_at_call 91; (with_reducible refine (xg.calls _ _ l0 (wrap64 (x7_1 - 1)) t425 _ ?side1 ?side2 A7.out).mono ?_); (case side1 => exact cU HR0.out); (case side2 => exact HC0.out); rintro e w' ⟨rfl, ⟨nd, rfl⟩⟩))
      go_roundg k1
      case measure => have := HK1.out; omega
      case rel => exact ⟨(wrap64 (x7_1 + 1)), rq, H', ⟨by have := HK1.out; omega⟩, by repeat (first | exact wa.refl _ | apply wa.step)⟩
   ·obtain rfl := Option.some.inj H
    go_wp2
    go_ret
    exact ⟨by first | rfl | (simp; done) | (simp [*]; done), by repeat (first | exact wa.refl _ | apply wa.step)⟩
def vC.l0 : Nat → List Int → Int → Int → Option (Int)
 | 0, _, _, _ => none
 | k + 1, x0, x2, x7 => if x7 < (x0.length : Int) then ((xg.f x0 x7).bind fun t426 => (if t426 = x2 then (some x7) else (vC.l0 k x0 x2 (wrap64 (x7 + 1))))) else (some (x0.length : Int))
def vC.f (k : Nat) (l0 : List Int) (a1 : Int) (a2 : Int) : Option (Int) := vC.l0 k l0 a2 (wrap64 (a1 + 1))
theorem vC.wj : ∀ k, (∀ y0 y1 y2, vP (vC.l0 k y0 y1 y2) (vC.l0 (k + 1) y0 y1 y2))
 | 0 => fun _ _ _ r h => by simp [vC.l0] at h
 | k + 1 => by
  have ih0 := vC.wj k
  ·intro y0 y1 y2
   unfold vC.l0
   repeat' first
   | (with_reducible exact ih0 _ _ _)
   | (with_reducible first | exact vP.refl _ | exact vP.none _ | apply vP.ite | refine vP.bind ?_ fun _ => ?_)
theorem vC.mono : ∀ a0 a1 a2 k, vP (vC.f k a0 a1 a2) (vC.f (k + 1) a0 a1 a2) := by
 intro a0 a1 a2 k
 have ih0 := vC.wj k
 unfold vC.f
 repeat' first
   | (with_reducible exact ih0 _ _ _)
   | (with_reducible first | exact vP.refl _ | exact vP.none _ | apply vP.ite | refine vP.bind ?_ fun _ => ?_)
set_option maxHeartbeats 8000000 in
set_option maxRecDepth 100000 in
theorem vC.calls (k : Nat) (A0 : Option Addr) (c0 : Nat) (l0 : List Int) (a1 : Int) (a2 : Int) (r : Int) (w : World) (hr0 : Kd.C (Kd.int .u8) w A0 l0.length l0) (hc0 : l0.length ≤ c0) (h : vC.f k l0 a1 a2 = some r) :
  Calls Tryd.prog 70 #[.slice A0 l0.length c0, .int .i64 a1, .int .i64 a2] w fun e w' => e = .returned (.int .i64 r) ∧ wa w w' := by
 have HR0 := Aside0.mk hr0
 have HC0 := Aside0.mk hc0
 clear hr0 hc0
 have H : (vC.l0 k l0 a2 (wrap64 (a1 + 1))) = some r := h
 clear h
 have H' := Aside0.mk H
 clear H
 go_enter Tryd.func70, Tryd.ntmps70
 go_wp2
 go_loopg [7] k (fun kq v7 w' => ∃ (x7_1 : Int), v7 = .int .i64 x7_1 ∧ Aside0 (vC.l0 kq l0 a2 x7_1 = some r) ∧ Aside0 (kq ≤ k) ∧ wa w w')
 case atStart => exact ⟨(wrap64 (a1 + 1)), rq, H', ⟨Nat.le_refl _⟩, by repeat (first | exact wa.refl _ | apply wa.step)⟩
 case round =>
  clear H'
  obtain ⟨x7_1, rfl, HA, HK1, ⟨m1, rfl⟩⟩ := hrel
  cases gk with
  | zero => exact absurd HA.out (by simp [vC.l0])
  | succ k1 =>
   have H := HA.out
   clear HA
   simp only [vC.l0] at H
   rcases iL H with H1 | H1 <;> clear H <;> obtain ⟨H, c4b0⟩ := H1
   ·obtain ⟨t426, A5, H⟩ := oB H
    try dsimp only at H
    rcases iE H with H1 | H1 <;> clear H <;> obtain ⟨H, c6b0, c6b1, c6⟩ := H1
    ·obtain rfl := Option.some.inj H
     go_wp2_with (first | (refine gF 91 18 Tryd.func91 #[.slice A0 l0.length c0, .int .i64 x7_1] rfl rfl ?_; (with_reducible refine (xg.calls _ _ l0 x7_1 t426 _ ?side1 ?side2 A5.out).mono ?_); (case side1 => exact cU HR0.out); (case side2 => exact HC0.out); rintro e w' ⟨rfl, ⟨nd, rfl⟩⟩; refine ⟨_, rfl, ?_⟩))
     go_ret
     exact ⟨by first | rfl | (simp; done) | (simp [*]; done), by repeat (first | exact wa.refl _ | apply wa.step)⟩
    ·have H' := Aside0.mk H
     clear H
     go_wp2_with (first | (refine gF 91 18 Tryd.func91 #[.slice A0 l0.length c0, .int .i64 x7_1] rfl rfl ?_; (with_reducible refine (xg.calls _ _ l0 x7_1 t426 _ ?side1 ?side2 A5.out).mono ?_); (case side1 => exact cU HR0.out); (case side2 => exact HC0.out); rintro e w' ⟨rfl, ⟨nd, rfl⟩⟩; refine ⟨_, rfl, ?_⟩))
     go_roundg k1
     case measure => have := HK1.out; omega
     case rel => exact ⟨(wrap64 (x7_1 + 1)), rq, H', ⟨by have := HK1.out; omega⟩, by repeat (first | exact wa.refl _ | apply wa.step)⟩
   ·obtain rfl := Option.some.inj H
    go_wp2
    go_ret
    exact ⟨by first | rfl | (simp; done) | (simp [*]; done), by repeat (first | exact wa.refl _ | apply wa.step)⟩
def vz.l0 : Nat → ByteArray → List Int → Int → Option (List Int)
 | 0, _, _, _ => none
 | k + 1, x0, x3, x4 => if x4 < (x0.size : Int) then (if 0 ≤ x4 then (if x3.length < 140737488355328 then (vz.l0 k x0 (x3 ++ [((bt x0 x4) - 48) % 256]) (wrap64 (x4 + 1))) else (none)) else (none)) else (some x3)
def vz.f (k : Nat) (a0 : ByteArray) : Option (List Int) := vz.l0 k a0 ([] : List Int) 0
theorem vz.wj : ∀ k, (∀ y0 y1 y2, vP (vz.l0 k y0 y1 y2) (vz.l0 (k + 1) y0 y1 y2))
 | 0 => fun _ _ _ r h => by simp [vz.l0] at h
 | k + 1 => by
  have ih0 := vz.wj k
  ·intro y0 y1 y2
   unfold vz.l0
   repeat' first
   | (with_reducible exact ih0 _ _ _)
   | (with_reducible first | exact vP.refl _ | exact vP.none _ | apply vP.ite | refine vP.bind ?_ fun _ => ?_)
theorem vz.mono : ∀ a0 k, vP (vz.f k a0) (vz.f (k + 1) a0) := by
 intro a0 k
 have ih0 := vz.wj k
 unfold vz.f
 repeat' first
   | (with_reducible exact ih0 _ _ _)
   | (with_reducible first | exact vP.refl _ | exact vP.none _ | apply vP.ite | refine vP.bind ?_ fun _ => ?_)
set_option maxHeartbeats 8000000 in
set_option maxRecDepth 100000 in
theorem vz.calls (k : Nat) (a0 : ByteArray) (r : List Int) (w : World) (h : vz.f k a0 = some r) :
  Calls Tryd.prog 71 #[.string a0] w fun e w' => ∃ v0_ : Value, e = .returned (v0_) ∧ Kd.R (Kd.int .u8) 5 w' w.heap.size (fun _ => True) v0_ r ∧ Below w.heap.size w w' := by
 have HB := Aside0.mk (Below.refl w.heap.size w)
 have H : (vz.l0 k a0 ([] : List Int) 0) = some r := h
 clear h
 have H' := Aside0.mk H
 clear H
 go_enter Tryd.func71, Tryd.ntmps71
 go_wp2
 go_loopg [3, 4] k (fun kq v3 v4 w' => ∃ (x3_1 : List Int) (x4_1 : Int), v4 = .int .i64 x4_1 ∧ Aside0 (vz.l0 kq a0 x3_1 x4_1 = some r) ∧ Aside0 (kq ≤ k) ∧ Aside0 (Kd.R (Kd.int .u8) 5 w' w.heap.size (fun _ => True) v3 x3_1) ∧ Aside0 (Below w.heap.size w w'))
 case atStart => exact ⟨(([] : List Int)), (0), rq, H', ⟨Nat.le_refl _⟩, ⟨by first | exact Kd.yC _ _ _ _ _ | exact Kd.za _ _ _ _ _ | exact Kd.y9 _ _ _ _ _ | exact Kd.zb _ _ _ _ _ | exact Kd.yZ _ _ _ _ _⟩, ⟨bl⟩⟩
 case round =>
  clear H'
  obtain ⟨x3_1, x4_1, rfl, HA, HK1, HO_3, HB⟩ := hrel
  cases gk with
  | zero => exact absurd HA.out (by simp [vz.l0])
  | succ k1 =>
   have H := HA.out
   clear HA
   simp only [vz.l0] at H
   rcases iL H with H1 | H1 <;> clear H <;> obtain ⟨H, c2b0⟩ := H1
   ·by_cases c3 : 0 ≤ x4_1
    ·rw [if_pos c3] at H
     have c3b0 := decide_eq_true c3
     clear c3
     by_cases c5 : x3_1.length < 140737488355328
     ·rw [if_pos c5] at H
      have LMc5 := Aside0.mk c5
      clear c5
      obtain ⟨y427, hy_⟩ : ∃ y_ : List Int, y_ = (x3_1 ++ [((bt a0 x4_1) - 48) % 256]) := ⟨_, rfl⟩
      replace H : (vz.l0 k1 a0 y427 (wrap64 (x4_1 + 1))) = some r := rh
      have Ny427 := aE hy_
      clear hy_
      have H' := Aside0.mk H
      clear H
      have p4 : 0 ≤ (x4_1 : Int) := dt
      have q4 : x4_1 < (a0.size : Int) := dt
      have hx4 := bt_at a0 x4_1
      replace p4 := eq_true p4
      replace q4 := eq_true q4
      go_wp2_with (first | ((with_reducible refine xb (b := .append) (xs := #[.tmp 11, .tmp 16]) rfl ?_); at_builtin; refine Kd.zf (Kd.int .u8) (w0 := w) w.heap.size rfl (.tmp 11) (.tmp 16) 22 5 (.int .u8 0) 1 rfl Tryd.underlying22 info5 rfl (by decide) (by omega) u3 x3_1 (((bt a0 x4_1) - 48) % 256) [.int .u8 (((bt a0 x4_1) - 48) % 256)] (fun _ => True) (fun _ => False) rfl rfl ?aP (fun _ hk => hk.elim) ?aF ?aO ?aB ?aS ?aL ?_; (case aP => exact rfl); (case aB => exact bl); (case aF => exact (fun _ _ => trivial)); (case aO => exact (rU HO_3.out)); (case aS => exact bz); (case aL => have := LMc5.out; omega); intro v428 w6 ho hb hg hat; rw [← Ny427.out] at ho; have n_ := aC hb (aE ho); clear HB HO_3; obtain ⟨HB, HO429⟩ := n_; clear ho hb hg hat))
      go_roundg k1
      case measure => have := HK1.out; omega
      case rel => exact ⟨(y427), (wrap64 (x4_1 + 1)), rq, H', ⟨by have := HK1.out; omega⟩, ⟨rU HO429.out⟩, ⟨bl⟩⟩
     ·rw [if_neg c5] at H
      exact absurd H (by simp)
    ·rw [if_neg c3] at H
     exact absurd H (by simp)
   ·obtain rfl := Option.some.inj H
    go_wp2
    go_ret
    exact ⟨_, re, rU HO_3.out, bl⟩
def xY.f (a0 : Int) : Option (ByteArray) := if a0 = (-3) then (some (⟨#[117, 112, 45, 51]⟩ : ByteArray)) else (if a0 = (-2) then (some (⟨#[117, 112, 45, 50]⟩ : ByteArray)) else (if a0 = (-1) then (some (⟨#[117, 112, 45, 49]⟩ : ByteArray)) else (if a0 = 0 then (some (⟨#[117, 112, 48]⟩ : ByteArray)) else (if a0 = 1 then (some (⟨#[117, 112, 49]⟩ : ByteArray)) else (if a0 = 2 then (some (⟨#[117, 112, 50]⟩ : ByteArray)) else (some (⟨#[117, 112, 51]⟩ : ByteArray)))))))
set_option maxHeartbeats 8000000 in
set_option maxRecDepth 100000 in
theorem xY.calls (a0 : Int) (r : ByteArray) (w : World) (h : xY.f a0 = some r) :
  Calls Tryd.prog 72 #[.int .i64 a0] w fun e w' => e = .returned (.string r) ∧ wa w w' := by
 have H := h
 unfold xY.f at H
 clear h
 rcases iE H with H1 | H1 <;> clear H <;> obtain ⟨H, c2b0, c2b1, c2⟩ := H1
 ·obtain rfl := Option.some.inj H
  go_enter Tryd.func72, Tryd.ntmps72
  go_wp2
  go_ret
  exact ⟨by first | rfl | (simp; done) | (simp [*]; done), by repeat (first | exact wa.refl _ | apply wa.step)⟩
 ·rcases iE H with H1 | H1 <;> clear H <;> obtain ⟨H, c3b0, c3b1, c3⟩ := H1
  ·obtain rfl := Option.some.inj H
   go_enter Tryd.func72, Tryd.ntmps72
   go_wp2
   go_ret
   exact ⟨by first | rfl | (simp; done) | (simp [*]; done), by repeat (first | exact wa.refl _ | apply wa.step)⟩
  ·rcases iE H with H1 | H1 <;> clear H <;> obtain ⟨H, c4b0, c4b1, c4⟩ := H1
   ·obtain rfl := Option.some.inj H
    go_enter Tryd.func72, Tryd.ntmps72
    go_wp2
    go_ret
    exact ⟨by first | rfl | (simp; done) | (simp [*]; done), by repeat (first | exact wa.refl _ | apply wa.step)⟩
   ·rcases iE H with H1 | H1 <;> clear H <;> obtain ⟨H, c5b0, c5b1, c5⟩ := H1
    ·obtain rfl := Option.some.inj H
     go_enter Tryd.func72, Tryd.ntmps72
     go_wp2
     go_ret
     exact ⟨by first | rfl | (simp; done) | (simp [*]; done), by repeat (first | exact wa.refl _ | apply wa.step)⟩
    ·rcases iE H with H1 | H1 <;> clear H <;> obtain ⟨H, c6b0, c6b1, c6⟩ := H1
     ·obtain rfl := Option.some.inj H
      go_enter Tryd.func72, Tryd.ntmps72
      go_wp2
      go_ret
      exact ⟨by first | rfl | (simp; done) | (simp [*]; done), by repeat (first | exact wa.refl _ | apply wa.step)⟩
     ·rcases iE H with H1 | H1 <;> clear H <;> obtain ⟨H, c7b0, c7b1, c7⟩ := H1
      ·obtain rfl := Option.some.inj H
       go_enter Tryd.func72, Tryd.ntmps72
       go_wp2
       go_ret
       exact ⟨by first | rfl | (simp; done) | (simp [*]; done), by repeat (first | exact wa.refl _ | apply wa.step)⟩
      ·obtain rfl := Option.some.inj H
       go_enter Tryd.func72, Tryd.ntmps72
       go_wp2
       go_ret
       exact ⟨by first | rfl | (simp; done) | (simp [*]; done), by repeat (first | exact wa.refl _ | apply wa.step)⟩
def xE.f (a0 : Int) : Option (ByteArray) := if a0 = 0 then (some (⟨#[49]⟩ : ByteArray)) else (if a0 = 1 then (some (⟨#[48, 49, 49]⟩ : ByteArray)) else (if a0 = 2 then (some (⟨#[48, 48, 48, 48, 49, 49]⟩ : ByteArray)) else (if a0 = 3 then (some (⟨#[48, 48, 48, 48, 48, 49, 49]⟩ : ByteArray)) else (if a0 = (-1) then (some (⟨#[48, 49, 48]⟩ : ByteArray)) else (if a0 = (-2) then (some (⟨#[48, 48, 48, 48, 49, 48]⟩ : ByteArray)) else (some (⟨#[48, 48, 48, 48, 48, 49, 48]⟩ : ByteArray)))))))
set_option maxHeartbeats 8000000 in
set_option maxRecDepth 100000 in
theorem xE.calls (a0 : Int) (r : ByteArray) (w : World) (h : xE.f a0 = some r) :
  Calls Tryd.prog 73 #[.int .i64 a0] w fun e w' => e = .returned (.string r) ∧ wa w w' := by
 have H := h
 unfold xE.f at H
 clear h
 rcases iE H with H1 | H1 <;> clear H <;> obtain ⟨H, c2b0, c2b1, c2⟩ := H1
 ·obtain rfl := Option.some.inj H
  go_enter Tryd.func73, Tryd.ntmps73
  go_wp2
  go_ret
  exact ⟨by first | rfl | (simp; done) | (simp [*]; done), by repeat (first | exact wa.refl _ | apply wa.step)⟩
 ·rcases iE H with H1 | H1 <;> clear H <;> obtain ⟨H, c3b0, c3b1, c3⟩ := H1
  ·obtain rfl := Option.some.inj H
   go_enter Tryd.func73, Tryd.ntmps73
   go_wp2
   go_ret
   exact ⟨by first | rfl | (simp; done) | (simp [*]; done), by repeat (first | exact wa.refl _ | apply wa.step)⟩
  ·rcases iE H with H1 | H1 <;> clear H <;> obtain ⟨H, c4b0, c4b1, c4⟩ := H1
   ·obtain rfl := Option.some.inj H
    go_enter Tryd.func73, Tryd.ntmps73
    go_wp2
    go_ret
    exact ⟨by first | rfl | (simp; done) | (simp [*]; done), by repeat (first | exact wa.refl _ | apply wa.step)⟩
   ·rcases iE H with H1 | H1 <;> clear H <;> obtain ⟨H, c5b0, c5b1, c5⟩ := H1
    ·obtain rfl := Option.some.inj H
     go_enter Tryd.func73, Tryd.ntmps73
     go_wp2
     go_ret
     exact ⟨by first | rfl | (simp; done) | (simp [*]; done), by repeat (first | exact wa.refl _ | apply wa.step)⟩
    ·rcases iE H with H1 | H1 <;> clear H <;> obtain ⟨H, c6b0, c6b1, c6⟩ := H1
     ·obtain rfl := Option.some.inj H
      go_enter Tryd.func73, Tryd.ntmps73
      go_wp2
      go_ret
      exact ⟨by first | rfl | (simp; done) | (simp [*]; done), by repeat (first | exact wa.refl _ | apply wa.step)⟩
     ·rcases iE H with H1 | H1 <;> clear H <;> obtain ⟨H, c7b0, c7b1, c7⟩ := H1
      ·obtain rfl := Option.some.inj H
       go_enter Tryd.func73, Tryd.ntmps73
       go_wp2
       go_ret
       exact ⟨by first | rfl | (simp; done) | (simp [*]; done), by repeat (first | exact wa.refl _ | apply wa.step)⟩
      ·obtain rfl := Option.some.inj H
       go_enter Tryd.func73, Tryd.ntmps73
       go_wp2
       go_ret
       exact ⟨by first | rfl | (simp; done) | (simp [*]; done), by repeat (first | exact wa.refl _ | apply wa.step)⟩
end Go.Proofs.YtknclbodinfbeaaDoor.PRunsSame
