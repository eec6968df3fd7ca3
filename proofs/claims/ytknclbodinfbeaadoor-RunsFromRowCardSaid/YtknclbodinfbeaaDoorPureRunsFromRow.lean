/- Every row of lengths and every width: FromRow returns the row of these runs, or the error that the reference tells; no conditions. -/
import Derived.Test.YtknclbodinfbeaaDoorPRunsFromRowx8
import Derived.Test.YtknclbodinfbeaaDoorQBase
namespace Go.Proofs.YtknclbodinfbeaaDoor.Pure
open Go.RowKit Go.Proofs.YtknclbodinfbeaaDoor.PRunsFromRow Go.Proofs.YtknclbodinfbeaaDoorW.PrintWords Go.Proofs.YtknclbodinfbeaaDoorW.PrintLast Go.Proofs.YtknclbodinfbeaaDoorW.PrintMore Go.Proofs.YtknclbodinfbeaaDoorW.Pu
set_option linter.unusedVariables false
set_option linter.unusedSimpArgs false
theorem EvP.of {α : Type} {g : Nat → Option α} {r : α} (m : ∀ k, LeO (g k) (g (k + 1))) {k : Nat} (h : g k = some r) : EvP g (· = r) := ⟨r, Ev.of m h, rfl⟩
theorem drop_rd {l : List Int} {i : Int} (h0 : 0 ≤ i) (h1 : i < (l.length : Int)) : l.drop i.toNat = rd l i :: l.drop (i + 1).toNat := by
  have h : i.toNat < l.length := by omega
  rw [show (i + 1).toNat = i.toNat + 1 by omega, List.drop_eq_getElem_cons h]
  congr 1
  have := rd_get l i.toNat h
  rw [show ((i.toNat : Nat) : Int) = i by omega] at this
  exact this.symm
theorem drop_end {l : List Int} {i : Int} (h1 : (l.length : Int) ≤ i) : l.drop i.toNat = [] := List.drop_eq_nil_of_le (by omega)
theorem awake06 : incunablelaw06_Awake.f 200 = some true := by decide +kernel
theorem Awake06_is : EvP (fun k => incunablelaw06_Awake.f k) (· = true) := EvP.of incunablelaw06_Awake.mono awake06
theorem rep06 : (List.range 201).all (fun n => decide (slices_Repeat_byte_byte.f 20 [0] (n : Int) = some (List.replicate n 0)) && decide (slices_Repeat_byte_byte.f 20 [1] (n : Int) = some (List.replicate n 1))) = true := by decide +kernel
theorem rep_is {v n : Int} (h0 : 0 ≤ n) (h1 : n ≤ 200) (hv : v = 0 ∨ v = 1) : EvP (fun k => slices_Repeat_byte_byte.f k [v] n) (· = List.replicate n.toNat v) := by
  have g := List.all_eq_true.mp rep06 n.toNat (List.mem_range.mpr (by omega))
  rw [Bool.and_eq_true, decide_eq_true_iff, decide_eq_true_iff, show ((n.toNat : Nat) : Int) = n by omega] at g
  rcases hv with rfl | rfl
  · exact EvP.of (slices_Repeat_byte_byte.mono _ _) g.1
  · exact EvP.of (slices_Repeat_byte_byte.mono _ _) g.2
/-- The row of runs, from the run with number i on. -/
def fr (w : Int) : Int → List Int → List Int → Option (List Int)
  | _, out, [] => if (out.length : Int) = w then some out else none
  | i, out, n :: l => if n < 0 ∨ (n = 0 ∧ 0 < i) ∨ n > w - out.length ∨ (out.length : Int) = w then none else fr w (i + 1) (out ++ List.replicate n.toNat (Int.tmod i 2 % 256)) l
theorem par (i : Int) (h : 0 ≤ i) : Int.tmod i 2 % 256 = 0 ∨ Int.tmod i 2 % 256 = 1 := by
  rw [Int.tmod_eq_emod_of_nonneg h]
  omega
def frR (o : Option (List Int)) : List Int × Int := match o with | some o => (o, 0) | none => ([], 3)
theorem FromRow_is (l : List Int) (w : Int) (hl : (l.length : Int) ≤ 9223372036854775806) (h0 : 0 ≤ w) (h1 : w ≤ 200) : EvP (fun k => runs_FromRow.f k l w) (· = frR (fr w 0 [] l)) := by
  unfold runs_FromRow.f
  refine EvP.neg (by omega) ?_
  refine EvP.step (fun k => by rw [runs_FromRow.j0]) ?_
  refine EvP.neg (by simp; omega) ?_
  refine EvP.up (L := fun k i (s : List Int) => runs_FromRow.l0 k w s l (l.length : Int) i) (fun i s => 0 ≤ i ∧ (s.length : Int) ≤ w ∧ fr w 0 [] l = fr w i s (l.drop i.toNat)) l.length ?_ 0 [] (by omega) ⟨by omega, by simpa using h0, rfl⟩
  intro i s ⟨i0, hs, hf⟩ hn ih
  refine EvP.step (fun k => by rw [runs_FromRow.l0]) ?_
  rw [hf]
  rw [hf] at ih
  refine EvP.ite (fun i1 => EvP.pos i0 (EvP.pos i1 ?_)) (fun i1 => ?_)
  · have bad : (rd l i < 0 ∨ (rd l i = 0 ∧ 0 < i) ∨ rd l i > w - s.length ∨ (s.length : Int) = w) → EvP (fun _ => some (([] : List Int), (3 : Int))) (· = frR (fr w i s (l.drop i.toNat))) := fun h => EvP.ret (by rw [drop_rd i0 i1]; unfold fr; rw [if_pos h]; rfl)
    have go : ¬ (rd l i < 0 ∨ (rd l i = 0 ∧ 0 < i) ∨ rd l i > w - s.length ∨ (s.length : Int) = w) → EvP (fun k => (slices_Repeat_byte_byte.f k [Int.tmod i 2 % 256] (rd l i)).bind fun t => (if s.length + t.length < 140737488355328 then runs_FromRow.l0 k w (s ++ t) l (l.length : Int) (wrap64 (i + 1)) else none)) (· = frR (fr w i s (l.drop i.toNat))) := fun h => by
      refine EvP.bind (rep_is (by omega) (by omega) (par i i0)) ?_
      rintro _ rfl
      refine EvP.pos (by rw [List.length_replicate]; omega) ?_
      rw [w64 (x := i + 1) (by omega) (by omega)]
      refine ih _ i1 ⟨by omega, ?_, ?_⟩
      · rw [List.length_append, List.length_replicate]; omega
      · rw [drop_rd i0 i1]
        show (if _ then _ else _) = _
        rw [if_neg h]
    rw [w64 (x := w - s.length) (by omega) (by omega)]
    refine EvP.ite (fun a => bad (.inl a)) (fun a => ?_)
    refine EvP.ite (fun b => ?_) (fun b => ?_)
    · refine EvP.ite (fun c => bad (.inr (.inl ⟨b, c⟩))) (fun c => ?_)
      refine EvP.ite (fun d => bad (.inr (.inr (.inl d)))) (fun d => ?_)
      exact EvP.ite (fun e => bad (.inr (.inr (.inr e)))) (fun e => go (by omega))
    · refine EvP.ite (fun d => bad (.inr (.inr (.inl d)))) (fun d => ?_)
      exact EvP.ite (fun e => bad (.inr (.inr (.inr e)))) (fun e => go (by omega))
  · rw [drop_end (by omega)]
    show EvP _ (· = frR (if (s.length : Int) = w then some s else none))
    refine EvP.ite (fun a => EvP.ret (by rw [if_pos a]; rfl)) (fun a => EvP.ret (by rw [if_neg a]; rfl))
theorem FromRow_bad (l : List Int) (w : Int) (h : w < 0 ∨ w > 200) : EvP (fun k => runs_FromRow.f k l w) (· = ([], 2)) := by
  unfold runs_FromRow.f
  refine EvP.ite (fun a => ?_) (fun a => ?_)
  · exact EvP.step (fun k => by rw [runs_FromRow.j0]) (EvP.pos rfl (EvP.ret rfl))
  · exact EvP.step (fun k => by rw [runs_FromRow.j0]) (EvP.pos (by simp; omega) (EvP.ret rfl))
theorem SameBytes06_is (l : List Int) (hl : (l.length : Int) ≤ 9223372036854775806) : EvP (fun k => incunableref02_SameBytes.f k l l) (· = true) := by
  unfold incunableref02_SameBytes.f
  refine EvP.pos rfl ?_
  refine EvP.up (L := fun k i (_ : Unit) => incunableref02_SameBytes.l0 k l l (l.length : Int) i) (fun i _ => 0 ≤ i) l.length ?_ 0 () (by omega) (by omega)
  intro i _ i0 hn ih
  refine EvP.step (fun k => by rw [incunableref02_SameBytes.l0]) ?_
  refine EvP.ite (fun i1 => EvP.pos i0 (EvP.pos i1 (EvP.pos i1 (EvP.pos rfl ?_)))) (fun _ => EvP.ret rfl)
  rw [w64 (x := i + 1) (by omega) (by omega)]
  exact ih () i1 (by omega)

theorem refFrom_in (l : List Int) (w i n : Int) (P : List Int × Bool → Prop) (i0 : 0 ≤ i) (n0 : 0 ≤ n) (n1 : n ≤ 200) (s : List Int) (hs : (s.length : Int) + n ≤ 200)
    (h : EvP (fun k => incunableref06_FromRow.l0 k l w (s ++ List.replicate n.toNat (Int.tmod i 2 % 256)) l (l.length : Int) (wrap64 (i + 1))) P) : EvP (fun k => incunableref06_FromRow.l1 k l w s i n 0 l (l.length : Int) i) P := by
  refine EvP.up (L := fun k j (t : List Int) => incunableref06_FromRow.l1 k l w t i n j l (l.length : Int) i) (fun j t => 0 ≤ j ∧ t = s ++ List.replicate j.toNat (Int.tmod i 2 % 256)) n ?_ 0 s (by omega) ⟨by omega, by simp⟩
  rintro j _ ⟨j0, rfl⟩ hj ih
  refine EvP.step (fun k => by rw [incunableref06_FromRow.l1]) ?_
  refine EvP.ite (fun a => EvP.pos (by rw [List.length_append, List.length_replicate]; omega) ?_) (fun a => ?_)
  · rw [w64 (x := j + 1) (by omega) (by omega)]
    refine ih _ a ⟨by omega, ?_⟩
    rw [List.append_assoc, show (j + 1).toNat = j.toNat + 1 by omega, List.replicate_succ']
  · rw [show j = n by omega]
    exact h
theorem refFrom_is (l : List Int) (w : Int) (hl : (l.length : Int) ≤ 9223372036854775806) (h0 : 0 ≤ w) (h1 : w ≤ 200) : EvP (fun k => incunableref06_FromRow.f k l w) (fun r => match fr w 0 [] l with | some o => r = (o, true) | none => r.2 = false) := by
  unfold incunableref06_FromRow.f
  refine EvP.up (L := fun k i (s : List Int) => incunableref06_FromRow.l0 k l w s l (l.length : Int) i) (fun i s => 0 ≤ i ∧ (s.length : Int) ≤ w ∧ (i = 0 → s = []) ∧ ((0 < w ∨ i = 0) → fr w 0 [] l = fr w i s (l.drop i.toNat)) ∧ ((w = 0 ∧ 0 < i) → fr w 0 [] l = none)) l.length ?_ 0 [] (by omega) ⟨by omega, by simpa using h0, fun _ => rfl, fun _ => rfl, fun z => absurd z.2 (by decide)⟩
  intro i s ⟨i0, hs, he, hf, hz⟩ hn ih
  refine EvP.step (fun k => by rw [incunableref06_FromRow.l0]) ?_
  have es : i = 0 → (s.length : Int) = 0 := fun z => by rw [he z]; rfl
  refine EvP.ite (fun i1 => EvP.pos i0 (EvP.pos i1 ?_)) (fun i1 => ?_)
  · have bad : (rd l i < 0 ∨ (rd l i = 0 ∧ 0 < i) ∨ rd l i > w - s.length) → fr w 0 [] l = none := fun h => by
      by_cases c : 0 < w ∨ i = 0
      · rw [hf c, drop_rd i0 i1]
        show (if _ then _ else _) = _
        rw [if_pos (by omega)]
      · exact hz (by omega)
    have bad2 : ∀ x : Bool, x = true → fr w 0 [] l = none → EvP (fun k => incunableref06_FromRow.j1 k l w s i (rd l i) l (l.length : Int) i x) (fun r => match fr w 0 [] l with | some o => r = (o, true) | none => r.2 = false) := fun x hx h => by
      refine EvP.step (fun k => by rw [incunableref06_FromRow.j1]) (EvP.pos hx (EvP.ret ?_))
      rw [h]
    have go : ∀ x : Bool, x = decide (rd l i > w - s.length) → ¬ (rd l i < 0 ∨ (rd l i = 0 ∧ 0 < i)) → EvP (fun k => incunableref06_FromRow.j1 k l w s i (rd l i) l (l.length : Int) i x) (fun r => match fr w 0 [] l with | some o => r = (o, true) | none => r.2 = false) := fun x hx h => by
      by_cases c : rd l i > w - s.length
      · exact bad2 x (by rw [hx]; exact decide_eq_true c) (bad (.inr (.inr c)))
      · refine EvP.step (fun k => by rw [incunableref06_FromRow.j1]) (EvP.neg (by rw [hx]; simpa using c) ?_)
        refine refFrom_in l w i (rd l i) _ i0 (by omega) (by omega) s (by omega) ?_
        rw [w64 (x := i + 1) (by omega) (by omega)]
        refine ih _ i1 ⟨by omega, ?_, fun z => absurd z (by omega), fun z => ?_, fun z => ?_⟩
        · rw [List.length_append, List.length_replicate]; omega
        · rw [hf (by omega), drop_rd i0 i1]
          show (if _ then _ else _) = _
          rw [if_neg (by omega)]
        · by_cases d : i = 0
          · rw [hf (.inr d), drop_rd i0 i1]
            show (if _ then _ else _) = _
            have := es d
            rw [if_pos (by omega)]
          · exact hz ⟨z.1, by omega⟩
    rw [w64 (x := w - s.length) (by omega) (by omega)]
    refine EvP.ite (fun a => bad2 true rfl (bad (.inl a))) (fun a => ?_)
    refine EvP.ite (fun b => ?_) (fun b => go _ rfl (by omega))
    exact EvP.ite (fun c => bad2 true rfl (bad (.inr (.inl ⟨b, c⟩)))) (fun c => go _ rfl (by omega))
  · have ei : i = (l.length : Int) := by omega
    have key : fr w 0 [] l = if (s.length : Int) = w ∧ (0 < w ∨ (l.length : Int) = 0) then some s else none := by
      by_cases c : 0 < w ∨ i = 0
      · rw [hf c, drop_end (by omega)]
        show (if _ then _ else _) = _
        by_cases d : (s.length : Int) = w
        · rw [if_pos d, if_pos ⟨d, by omega⟩]
        · rw [if_neg d, if_neg (fun z => d z.1)]
      · rw [hz (by omega), if_neg (by omega)]
    rw [key]
    refine EvP.ite (fun a => EvP.ite (fun b => EvP.ret ?_) (fun b => EvP.ret ?_)) (fun a => EvP.ret ?_)
    · rw [if_pos ⟨a, .inl b⟩]
    · by_cases d : (l.length : Int) = 0
      · rw [if_pos ⟨a, .inr d⟩, d]
        rfl
      · rw [if_neg (by omega)]
        simpa using d
    · rw [if_neg (fun z => a z.1)]
theorem fr_len {w : Int} : ∀ {l : List Int} {i : Int} {s o : List Int}, fr w i s l = some o → (o.length : Int) = w
  | [], i, s, o, h => by
    unfold fr at h
    split at h
    · next a => rw [← Option.some.inj h]; exact a
    · cases h
  | n :: l, i, s, o, h => by
    unfold fr at h
    split at h
    · cases h
    · exact fr_len h
theorem RunsFromRow : incunablelaw06_RunsFromRow.Pure := by
  intro l w hl _
  have hl1 : (l.length : Int) ≤ 9223372036854775806 := by have := hl.2.1; omega
  refine EvP.rounds ?_
  unfold incunablelaw06_RunsFromRow.f
  by_cases h : w < 0 ∨ w > 200
  · refine EvP.bind (FromRow_bad l w h) ?_
    rintro _ rfl
    have fin : ∀ x : Bool, x = true → EvP (fun k => incunablelaw06_RunsFromRow.j0 k l w [] 2 x) (· = true) := fun x hx => by
      refine EvP.step (fun k => by rw [incunablelaw06_RunsFromRow.j0]) ?_
      refine EvP.pos hx (EvP.pos rfl (EvP.pos rfl ?_))
      refine EvP.bind Awake06_is ?_
      rintro _ rfl
      exact EvP.ret rfl
    exact EvP.ite (fun a => fin true rfl) (fun a => fin _ (by simp; omega))
  · refine EvP.bind (FromRow_is l w hl1 (by omega) (by omega)) ?_
    rintro _ rfl
    refine EvP.neg (by omega) ?_
    refine EvP.step (fun k => by rw [incunablelaw06_RunsFromRow.j0]) (EvP.neg (by simp; omega) ?_)
    refine EvP.bind (refFrom_is l w hl1 (by omega) (by omega)) ?_
    intro r hr
    cases e : fr w 0 [] l with
    | none =>
      rw [e] at hr
      refine EvP.neg (by rw [show r.2 = false from hr]; decide) (EvP.pos rfl (EvP.pos rfl ?_))
      refine EvP.bind Awake06_is ?_
      rintro _ rfl
      exact EvP.ret rfl
    | some o =>
      rw [e] at hr
      have hr : r = (o, true) := hr
      subst hr
      have := fr_len e
      refine EvP.pos rfl (EvP.pos rfl ?_)
      refine EvP.bind (SameBytes06_is o (by omega)) ?_
      rintro _ rfl
      refine EvP.pos rfl ?_
      refine EvP.bind Awake06_is ?_
      rintro _ rfl
      exact EvP.ret rfl

end Go.Proofs.YtknclbodinfbeaaDoor.Pure
