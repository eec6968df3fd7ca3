/- The bits of a run. No conditions beyond the statement's own. -/
import Derived.Test.YtknclbodinfbeaaDoorPRunsRunBitsx10
import Derived.Test.YtknclbodinfbeaaDoorQBase
namespace Go.Proofs.YtknclbodinfbeaaDoor.Pure
open Go.RowKit Go.Proofs.YtknclbodinfbeaaDoor.PRunsRunBits Go.Proofs.YtknclbodinfbeaaDoorW.PrintWords Go.Proofs.YtknclbodinfbeaaDoorW.PrintLast Go.Proofs.YtknclbodinfbeaaDoorW.PrintMore Go.Proofs.YtknclbodinfbeaaDoorW.Pu
set_option linter.unusedVariables false
set_option linter.unusedSimpArgs false
theorem awake06 : incunablelaw06_Awake.f 200 = some true := by decide +kernel
theorem good06 : (List.range 201).all (fun n => decide (incunablelaw06_RunsRunBits.f 201 (n : Int) 0 = some true) && decide (incunablelaw06_RunsRunBits.f 201 (n : Int) 1 = some true)) = true := by decide +kernel
theorem bad06 (x y : Int) : incunablelaw06_RunsRunBits.j0 201 x y [] 2 true = some true := by
  show incunablelaw06_RunsRunBits.j0 (200 + 1) x y [] 2 true = some true
  rw [incunablelaw06_RunsRunBits.j0, if_pos rfl, if_pos rfl, if_pos (show ((([] : List Int).length : Nat) : Int) = 0 from rfl), awake06]
  rfl
theorem RunsRunBits : incunablelaw06_RunsRunBits.Pure := by
  intro a b _ _
  refine ⟨201, ?_⟩
  by_cases h0 : a < 0
  · unfold incunablelaw06_RunsRunBits.f runs_RunBits.f
    rw [if_pos h0, Option.bind_some, if_pos h0]
    exact bad06 a b
  · by_cases h1 : a > 200
    · unfold incunablelaw06_RunsRunBits.f runs_RunBits.f
      rw [if_neg h0, if_pos h1, Option.bind_some, if_neg h0, if_pos h1]
      exact bad06 a b
    · have g := List.all_eq_true.mp good06 a.toNat (List.mem_range.mpr (by omega))
      rw [Bool.and_eq_true, decide_eq_true_iff, decide_eq_true_iff, show ((a.toNat : Nat) : Int) = a by omega] at g
      by_cases h2 : b = 0
      · subst h2
        exact g.1
      · by_cases h3 : b = 1
        · subst h3
          exact g.2
        · unfold incunablelaw06_RunsRunBits.f runs_RunBits.f
          rw [if_neg h0, if_neg h1, if_neg h2, if_neg h3, Option.bind_some, if_neg h0, if_neg h1, if_neg h2, show (b != 1) = true from bne_iff_ne.mpr h3]
          exact bad06 a b

end Go.Proofs.YtknclbodinfbeaaDoor.Pure
