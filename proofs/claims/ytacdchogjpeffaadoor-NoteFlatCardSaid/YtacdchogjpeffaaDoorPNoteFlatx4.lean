-- printed (wip/tools/myprint.py)
import Derived.Test.YtacdchogjpeffaaDoorPNoteFlatx0
import Derived.Test.YtacdchogjpeffaaDoorPNoteFlatx3
namespace Go.Proofs.YtacdchogjpeffaaDoor.PNoteFlat
open Go.RowKit Go.Proofs.YtacdchogjpeffaaDoorW.PrintWords Go.Proofs.YtacdchogjpeffaaDoorW.PrintLast Go.Proofs.YtacdchogjpeffaaDoorW.PrintMore
attribute [local go_sem] max2_int min2_int max_two min_two max_three min_three max_four min_four
set_option linter.unusedVariables false
set_option linter.unusedSimpArgs false
def incunableref25_Flat.f (k : Nat) (l0 : List (S61)) : Option (List (S61) × List Int × Int) := (incunableref25_ValidOutlines.f k l0).bind fun v => if v = true then ((incunableref25_flat.l0 k l0 0 ([] : List (S61)) ([] : List Int) 0).bind fun t => some (t.1, t.2, 0)) else some (([] : List (S61)), ([] : List Int), 95)
theorem incunableref25_Flat.mono : ∀ a0 k, LeO (incunableref25_Flat.f k a0) (incunableref25_Flat.f (k + 1) a0) := by
 intro a0 k
 unfold incunableref25_Flat.f
 exact LeO.bind (incunableref25_ValidOutlines.mono _ k) (fun _ => LeO.ite (LeO.bind (incunableref25_flat.mono k _ _ _ _ _) (fun _ => LeO.refl _)) (LeO.refl _))
set_option maxHeartbeats 8000000 in
set_option maxRecDepth 100000 in
theorem incunableref25_Flat.calls (k : Nat) (A0 : Option Addr) (c0 : Nat) (l0 : List (S61)) (r1 : List (S61)) (r2 : List Int) (r3 : Int) (w : World) (hr0 : Kd.C k61 w A0 l0.length l0) (hc0 : l0.length ≤ c0) (h : incunableref25_Flat.f k l0 = some (r1, r2, r3)) :
  Calls Tryd.prog 13 #[.slice A0 l0.length c0] w fun e w' => ∃ v0_ v1_ : Value, e = .returned (.tuple #[v0_, v1_, .int .i64 r3]) ∧ Kd.R k61 61 w' w.heap.size (fun _ => True) v0_ r1 ∧ Kd.R (Kd.int .i64) 3 w' w.heap.size (fun _ => True) v1_ r2 ∧ Below w.heap.size w w' := by
 unfold incunableref25_Flat.f at h
 obtain ⟨v, A1, h⟩ := oB h
 have HR0 := Aside0.mk hr0
 have HC0 := Aside0.mk hc0
 clear hr0 hc0
 have HB := Aside0.mk (Below.refl w.heap.size w)
 by_cases c : v = true
 ·rw [if_pos c] at h
  subst c
  obtain ⟨⟨o, ds⟩, A2, h⟩ := oB h
  simp only [Option.some.injEq, Prod.mk.injEq] at h
  obtain ⟨rfl, rfl, rfl⟩ := h
  go_enter Tryd.func13, Tryd.ntmps13
  go_wp2_with (first | (refine gF 28 8 Tryd.func28 #[.slice A0 l0.length c0] rfl rfl ?_; refine (incunableref25_ValidOutlines.calls k _ _ l0 true _ HR0.out HC0.out A1.out).mono ?_; rintro e w2 ⟨rfl, hb⟩; refine ⟨_, rfl, ?_⟩; have n_ := aE (below_step HB.out hb); clear HB; have HB := n_; clear hb) | (refine gF 40 12 Tryd.func40 #[.slice A0 l0.length c0, .slice none 0 0, .slice none 0 0, .int .i64 0] rfl rfl ?_; refine (incunableref25_flat.calls k _ _ l0 (.slice none 0 0) (.slice none 0 0) ([] : List (S61)) ([] : List Int) 0 o ds w _ HR0.out HC0.out HB.out (Kd.R_nil _ _ _ _ _) (Kd.R_nil _ _ _ _ _) A2.out).mono ?_; rintro e w3 ⟨q0, q1, rfl, h1, h2, hb⟩; refine ⟨_, rfl, ?_⟩; have n_ := aC h1 (aC h2 (aE hb)); clear HB; obtain ⟨HO1, HO2, HB⟩ := n_; clear h1 h2 hb))
  go_ret3
  exact ⟨_, _, re, HO1.out, HO2.out, HB.out⟩
 ·rw [if_neg c] at h
  replace c := Bool.eq_false_iff.mpr c
  subst c
  simp only [Option.some.injEq, Prod.mk.injEq] at h
  obtain ⟨rfl, rfl, rfl⟩ := h
  go_enter Tryd.func13, Tryd.ntmps13
  go_wp2_with (first | (refine gF 28 8 Tryd.func28 #[.slice A0 l0.length c0] rfl rfl ?_; refine (incunableref25_ValidOutlines.calls k _ _ l0 false _ HR0.out HC0.out A1.out).mono ?_; rintro e w2 ⟨rfl, hb⟩; refine ⟨_, rfl, ?_⟩; have n_ := aE (below_step HB.out hb); clear HB; have HB := n_; clear hb))
  go_ret3
  exact ⟨_, _, re, Kd.R_nil _ _ _ _ _, Kd.R_nil _ _ _ _ _, HB.out⟩
end Go.Proofs.YtacdchogjpeffaaDoor.PNoteFlat
