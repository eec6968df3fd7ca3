/- Words for printed walks that trim.py has made shorter. No conditions. -/
import Derived.Test.YtacdchogjpeffaaDoorYUp
import Derived.Test.YtacdchogjpeffaaDoorWLast
import Derived.Test.YtacdchogjpeffaaDoorWMore
import Derived.Test.YtacdchogjpeffaaDoorWTab
namespace Go.Proofs.YtacdchogjpeffaaDoorW.PrintWords
open Go.RowKit Go.Proofs.YtacdchogjpeffaaDoorW.PrintLast
set_option linter.unusedVariables false
theorem oB {α β : Type} {o : Option α} {f : α → Option β} {r : β} (h : o.bind f = some r) : ∃ a, Aside0 (o = some a) ∧ f a = some r := by
  obtain ⟨a, h1, h2⟩ := Option.bind_eq_some_iff.mp h
  exact ⟨a, ⟨h1⟩, h2⟩
section
variable {P : Program} {ops : Array Oper} {Q : Exit → Act → World → Prop}
theorem gF {rest : List Oper} {oi : Oper} {a : Act} {w : World} (f : FuncId) (N : Tmp) {fn : Func} (hf : P.funcs[f]? = some fn) (args : Array Value) {xs : Array Operand} {ts : Array TypeId} (hd : oi.dst = some N)
    (hop : oi.op = .call { callee := .value (.func f), args := xs, argTypes := ts }) (h : Calls P f args w fun e w' => ∃ v, e = .returned v ∧ wpList P ops Q rest (a.put (some N) v) w') (hg : oi.guard = none := by rfl) (hb : fn.body.isSome = true := by rfl)
    (hname : (fn.name == "runtime.NumGoroutine") = false := by kernel_rfl) (hargs : xs.map a.eval = args := by (try simp only [List.map_toArray, List.map_cons, List.map_nil]); first | done | rfl | (simp only [List.length_drop, List.length_take]; rfl)) : wpList P ops Q (oi :: rest) a w :=
  goesL_ (some N) hd hg hf hname hb args hop hargs h
end
theorem iE {α β : Type} [BEq α] [LawfulBEq α] {x y : α} [Decidable (x = y)] {a b : Option β} {r : β} (h : (if x = y then a else b) = some r) : (a = some r ∧ (x == y) = true ∧ (x != y) = false ∧ True) ∨ (b = some r ∧ (x == y) = false ∧ (x != y) = true ∧ ¬ x = y) := by
  by_cases c : x = y
  · rw [if_pos c] at h
    exact .inl ⟨h, beq_iff_eq.mpr c, bne_eq_false_iff_eq.mpr c, trivial⟩
  · rw [if_neg c] at h
    exact .inr ⟨h, beq_eq_false_iff_ne.mpr c, bne_iff_ne.mpr c, c⟩
theorem iL {p : Prop} [Decidable p] {β : Type} {a b : Option β} {r : β} (h : (if p then a else b) = some r) : (a = some r ∧ decide p = true) ∨ (b = some r ∧ decide p = false) := by
  by_cases c : p
  · rw [if_pos c] at h
    exact .inl ⟨h, decide_eq_true c⟩
  · rw [if_neg c] at h
    exact .inr ⟨h, decide_eq_false c⟩
end Go.Proofs.YtacdchogjpeffaaDoorW.PrintWords
