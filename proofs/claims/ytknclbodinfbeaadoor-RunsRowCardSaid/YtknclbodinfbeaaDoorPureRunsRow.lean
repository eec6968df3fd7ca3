/- The runs of any row, as the reference tells them, and that FromRow of them is the row again; no conditions. -/
import Derived.Test.YtknclbodinfbeaaDoorPRunsRowx9
import Derived.Test.YtknclbodinfbeaaDoorQBase
namespace Go.Proofs.YtknclbodinfbeaaDoor.Pure
open Go.RowKit Go.Proofs.YtknclbodinfbeaaDoor.PRunsRow Go.Proofs.YtknclbodinfbeaaDoorW.PrintWords Go.Proofs.YtknclbodinfbeaaDoorW.PrintLast Go.Proofs.YtknclbodinfbeaaDoorW.PrintMore Go.Proofs.YtknclbodinfbeaaDoorW.Pu
set_option linter.unusedVariables false
set_option linter.unusedSimpArgs false
theorem EvP.of {α : Type} {g : Nat → Option α} {r : α} (m : ∀ k, LeO (g k) (g (k + 1))) {k : Nat} (h : g k = some r) : EvP g (· = r) := ⟨r, Ev.of m h, rfl⟩
theorem drop_rd {l : List Int} {i : Int} (h0 : 0 ≤ i) (h1 : i < (l.length : Int)) : l.drop i.toNat = rd l i :: l.drop (i + 1).toNat := by
  have h : i.toNat < l.length := by omega
  rw [show (i + 1).toNat = i.toNat + 1 by omega, List.drop_eq_getElem_cons h]
  congr 1
  have := rd_get l i.toNat h
  rw [show ((i.toNat : Nat) : Int) = i by omega] at this
  exact this.symm
theorem drop_end {l : List Int} {i : Int} (h1 : (l.length : Int) ≤ i) : l.drop i.toNat = [] := List.drop_eq_nil_of_le (by omega)
theorem awake06 : incunablelaw06_Awake.f 200 = some true := by decide +kernel
theorem Awake06_is : EvP (fun k => incunablelaw06_Awake.f k) (· = true) := EvP.of incunablelaw06_Awake.mono awake06
theorem rep06 : (List.range 201).all (fun n => decide (slices_Repeat_byte_byte.f 20 [0] (n : Int) = some (List.replicate n 0)) && decide (slices_Repeat_byte_byte.f 20 [1] (n : Int) = some (List.replicate n 1))) = true := by decide +kernel
theorem rep_is {v n : Int} (h0 : 0 ≤ n) (h1 : n ≤ 200) (hv : v = 0 ∨ v = 1) : EvP (fun k => slices_Repeat_byte_byte.f k [v] n) (· = List.replicate n.toNat v) := by
  have g := List.all_eq_true.mp rep06 n.toNat (List.mem_range.mpr (by omega))
  rw [Bool.and_eq_true, decide_eq_true_iff, decide_eq_true_iff, show ((n.toNat : Nat) : Int) = n by omega] at g
  rcases hv with rfl | rfl
  · exact EvP.of (slices_Repeat_byte_byte.mono _ _) g.1
  · exact EvP.of (slices_Repeat_byte_byte.mono _ _) g.2
/-- The row of runs, from the run with number i on. -/
def fr (w : Int) : Int → List Int → List Int → Option (List Int)
  | _, out, [] => if (out.length : Int) = w then some out else none
  | i, out, n :: l => if n < 0 ∨ (n = 0 ∧ 0 < i) ∨ n > w - out.length ∨ (out.length : Int) = w then none else fr w (i + 1) (out ++ List.replicate n.toNat (Int.tmod i 2 % 256)) l
theorem par (i : Int) (h : 0 ≤ i) : Int.tmod i 2 % 256 = 0 ∨ Int.tmod i 2 % 256 = 1 := by
  rw [Int.tmod_eq_emod_of_nonneg h]
  omega
def frR (o : Option (List Int)) : List Int × Int := match o with | some o => (o, 0) | none => ([], 3)
theorem FromRow_is (l : List Int) (w : Int) (hl : (l.length : Int) ≤ 9223372036854775806) (h0 : 0 ≤ w) (h1 : w ≤ 200) : EvP (fun k => runs_FromRow.f k l w) (· = frR (fr w 0 [] l)) := by
  unfold runs_FromRow.f
  refine EvP.neg (by omega) ?_
  refine EvP.step (fun k => by rw [runs_FromRow.j0]) ?_
  refine EvP.neg (by simp; omega) ?_
  refine EvP.up (L := fun k i (s : List Int) => runs_FromRow.l0 k w s l (l.length : Int) i) (fun i s => 0 ≤ i ∧ (s.length : Int) ≤ w ∧ fr w 0 [] l = fr w i s (l.drop i.toNat)) l.length ?_ 0 [] (by omega) ⟨by omega, by simpa using h0, rfl⟩
  intro i s ⟨i0, hs, hf⟩ hn ih
  refine EvP.step (fun k => by rw [runs_FromRow.l0]) ?_
  rw [hf]
  rw [hf] at ih
  refine EvP.ite (fun i1 => EvP.pos i0 (EvP.pos i1 ?_)) (fun i1 => ?_)
  · have bad : (rd l i < 0 ∨ (rd l i = 0 ∧ 0 < i) ∨ rd l i > w - s.length ∨ (s.length : Int) = w) → EvP (fun _ => some (([] : List Int), (3 : Int))) (· = frR (fr w i s (l.drop i.toNat))) := fun h => EvP.ret (by rw [drop_rd i0 i1]; unfold fr; rw [if_pos h]; rfl)
    have go : ¬ (rd l i < 0 ∨ (rd l i = 0 ∧ 0 < i) ∨ rd l i > w - s.length ∨ (s.length : Int) = w) → EvP (fun k => (slices_Repeat_byte_byte.f k [Int.tmod i 2 % 256] (rd l i)).bind fun t => (if s.length + t.length < 140737488355328 then runs_FromRow.l0 k w (s ++ t) l (l.length : Int) (wrap64 (i + 1)) else none)) (· = frR (fr w i s (l.drop i.toNat))) := fun h => by
      refine EvP.bind (rep_is (by omega) (by omega) (par i i0)) ?_
      rintro _ rfl
      refine EvP.pos (by rw [List.length_replicate]; omega) ?_
      rw [w64 (x := i + 1) (by omega) (by omega)]
      refine ih _ i1 ⟨by omega, ?_, ?_⟩
      · rw [List.length_append, List.length_replicate]; omega
      · rw [drop_rd i0 i1]
        show (if _ then _ else _) = _
        rw [if_neg h]
    rw [w64 (x := w - s.length) (by omega) (by omega)]
    refine EvP.ite (fun a => bad (.inl a)) (fun a => ?_)
    refine EvP.ite (fun b => ?_) (fun b => ?_)
    · refine EvP.ite (fun c => bad (.inr (.inl ⟨b, c⟩))) (fun c => ?_)
      refine EvP.ite (fun d => bad (.inr (.inr (.inl d)))) (fun d => ?_)
      exact EvP.ite (fun e => bad (.inr (.inr (.inr e)))) (fun e => go (by omega))
    · refine EvP.ite (fun d => bad (.inr (.inr (.inl d)))) (fun d => ?_)
      exact EvP.ite (fun e => bad (.inr (.inr (.inr e)))) (fun e => go (by omega))
  · rw [drop_end (by omega)]
    show EvP _ (· = frR (if (s.length : Int) = w then some s else none))
    refine EvP.ite (fun a => EvP.ret (by rw [if_pos a]; rfl)) (fun a => EvP.ret (by rw [if_neg a]; rfl))
theorem FromRow_bad (l : List Int) (w : Int) (h : w < 0 ∨ w > 200) : EvP (fun k => runs_FromRow.f k l w) (· = ([], 2)) := by
  unfold runs_FromRow.f
  refine EvP.ite (fun a => ?_) (fun a => ?_)
  · exact EvP.step (fun k => by rw [runs_FromRow.j0]) (EvP.pos rfl (EvP.ret rfl))
  · exact EvP.step (fun k => by rw [runs_FromRow.j0]) (EvP.pos (by simp; omega) (EvP.ret rfl))
theorem SameBytes06_is (l : List Int) (hl : (l.length : Int) ≤ 9223372036854775806) : EvP (fun k => incunableref02_SameBytes.f k l l) (· = true) := by
  unfold incunableref02_SameBytes.f
  refine EvP.pos rfl ?_
  refine EvP.up (L := fun k i (_ : Unit) => incunableref02_SameBytes.l0 k l l (l.length : Int) i) (fun i _ => 0 ≤ i) l.length ?_ 0 () (by omega) (by omega)
  intro i _ i0 hn ih
  refine EvP.step (fun k => by rw [incunableref02_SameBytes.l0]) ?_
  refine EvP.ite (fun i1 => EvP.pos i0 (EvP.pos i1 (EvP.pos i1 (EvP.pos rfl ?_)))) (fun _ => EvP.ret rfl)
  rw [w64 (x := i + 1) (by omega) (by omega)]
  exact ih () i1 (by omega)

/-- The numbers of a list are those of bytes. -/
def Byt (p : List Int) : Prop := ∀ x ∈ p, 0 ≤ x ∧ x ≤ 255
theorem val_byt {w h : Int} {p : List Int} (v : Val w h p) : Byt p := fun x hx => ⟨(v.2.2.2.2.2.2 x hx).1, by have := (v.2.2.2.2.2.2 x hx).2; omega⟩

theorem wf_byt {p : List Int} (h : ∀ y ∈ p, (Lit.int .u8 y).wf = true) : Byt p := fun x hx => by
  have h1 : (decide (IntKind.u8.min ≤ x) && decide (x ≤ IntKind.u8.max)) = true := h x hx
  obtain ⟨a, b⟩ := Bool.and_eq_true_iff.mp h1
  exact ⟨of_decide_eq_true a, of_decide_eq_true b⟩
theorem wf_i64 {x : Int} (h : (Lit.int .i64 x).wf = true) : -9223372036854775808 ≤ x ∧ x ≤ 9223372036854775807 := by
  have h1 : (decide (IntKind.i64.min ≤ x) && decide (x ≤ IntKind.i64.max)) = true := h
  obtain ⟨a, b⟩ := Bool.and_eq_true_iff.mp h1
  exact ⟨of_decide_eq_true a, of_decide_eq_true b⟩

/-- How many pixels from the first on are of a colour; the runs of a row. -/
def rl (c : Int) : List Int → Nat
  | [] => 0
  | x :: xs => if x = c then rl c xs + 1 else 0
def rle : Nat → Int → List Int → List Int
  | 0, _, _ => []
  | _ + 1, _, [] => []
  | n + 1, c, x :: xs => (rl c (x :: xs) : Int) :: rle n ((1 - c) % 256) ((x :: xs).drop (rl c (x :: xs)))
theorem rl_le (c : Int) : ∀ l : List Int, rl c l ≤ l.length
  | [] => Nat.le_refl _
  | x :: xs => by
    have ih := rl_le c xs
    unfold rl
    split
    · rw [List.length_cons]; omega
    · exact Nat.zero_le _
theorem rl_take (c : Int) : ∀ l : List Int, l.take (rl c l) = List.replicate (rl c l) c
  | [] => rfl
  | x :: xs => by
    unfold rl
    split
    · next h => rw [List.take_succ_cons, List.replicate_succ, rl_take c xs, h]
    · rfl
theorem rl_at (c : Int) : ∀ l : List Int, ∀ x t, l.drop (rl c l) = x :: t → x ≠ c
  | [], x, t, h => by cases h
  | y :: ys, x, t, h => by
    unfold rl at h
    split at h
    · exact rl_at c ys x t h
    · next g => rw [← (List.cons.inj h).1]; exact g
theorem SameInts06_is (l : List Int) (hl : (l.length : Int) ≤ 9223372036854775806) : EvP (fun k => incunableref02_SameInts.f k l l) (· = true) := by
  unfold incunableref02_SameInts.f
  refine EvP.pos rfl ?_
  refine EvP.up (L := fun k i (_ : Unit) => incunableref02_SameInts.l0 k l l (l.length : Int) i) (fun i _ => 0 ≤ i) l.length ?_ 0 () (by omega) (by omega)
  intro i _ i0 hn ih
  refine EvP.step (fun k => by rw [incunableref02_SameInts.l0]) ?_
  refine EvP.ite (fun i1 => EvP.pos i0 (EvP.pos i1 (EvP.pos i1 (EvP.pos rfl ?_)))) (fun _ => EvP.ret rfl)
  rw [w64 (x := i + 1) (by omega) (by omega)]
  exact ih () i1 (by omega)
theorem rl_end {p : List Int} {c i : Int} (h : (p.length : Int) ≤ i) : rl c (p.drop i.toNat) = 0 := by rw [drop_end h]; rfl
theorem rl_hit {p : List Int} {c i : Int} (i0 : 0 ≤ i) (i1 : i < (p.length : Int)) (h : rd p i = c) : rl c (p.drop i.toNat) = rl c (p.drop (i + 1).toNat) + 1 := by
  rw [drop_rd i0 i1]
  show (if _ then _ else _) = _
  rw [if_pos h]
theorem rl_miss {p : List Int} {c i : Int} (i0 : 0 ≤ i) (i1 : i < (p.length : Int)) (h : ¬ rd p i = c) : rl c (p.drop i.toNat) = 0 := by
  rw [drop_rd i0 i1]
  show (if _ then _ else _) = _
  rw [if_neg h]
theorem drop2 {p : List Int} {i : Int} {n : Nat} (i0 : 0 ≤ i) : (p.drop i.toNat).drop n = p.drop (i + n).toNat := by
  rw [List.drop_drop]
  congr 1
  omega
theorem row_in (p : List Int) (out : List Int) (c a : Int) (P : List Int → Prop) (ho : (out.length : Int) ≤ 300) (hp : (p.length : Int) ≤ 200) (a0 : 0 ≤ a) (a1 : a ≤ p.length)
    (h : EvP (fun k => runs_row.l0 k p (out ++ [((rl c (p.drop a.toNat) : Nat) : Int)]) ((1 - c) % 256) (a + (rl c (p.drop a.toNat) : Nat))) P) : EvP (fun k => runs_row.l1 k p out c a a) P := by
  refine EvP.up (L := fun k j (_ : Unit) => runs_row.l1 k p out c j a) (fun j _ => a ≤ j ∧ j + (rl c (p.drop j.toNat) : Nat) = a + (rl c (p.drop a.toNat) : Nat)) p.length ?_ a () a1 ⟨Int.le_refl _, rfl⟩
  intro j _ ⟨j0, hj⟩ hn ih
  refine EvP.step (fun k => by rw [runs_row.l1]) ?_
  have out1 : (rl c (p.drop j.toNat) : Nat) = 0 → EvP (fun k => if out.length < 17592186044416 then runs_row.l0 k p (out ++ [wrap64 (j - a)]) ((1 - c) % 256) j else none) P := fun z => by
    refine EvP.pos (by omega) ?_
    rw [w64 (by omega) (by omega), show j - a = ((rl c (p.drop a.toNat) : Nat) : Int) by omega]
    rw [show j = a + (rl c (p.drop a.toNat) : Nat) by omega]
    exact h
  refine EvP.ite (fun j1 => EvP.pos (by omega) (EvP.ite (fun e => ?_) (fun e => out1 (rl_miss (by omega) j1 e)))) (fun j1 => out1 (rl_end (by omega)))
  have := rl_hit (by omega) j1 e
  rw [w64 (x := j + 1) (by omega) (by omega)]
  exact ih () j1 ⟨by omega, by omega⟩
theorem refRow_in (p : List Int) (out : List Int) (c a : Int) (P : List Int → Prop) (ho : (out.length : Int) ≤ 300) (hp : (p.length : Int) ≤ 200) (a0 : 0 ≤ a) (a1 : a ≤ p.length)
    (h : EvP (fun k => incunableref06_Row.l0 k p (out ++ [((rl c (p.drop a.toNat) : Nat) : Int)]) ((1 - c) % 256) (a + (rl c (p.drop a.toNat) : Nat))) P) : EvP (fun k => incunableref06_Row.l1 k p out c a 0) P := by
  refine EvP.up (L := fun k j (_ : Unit) => incunableref06_Row.l1 k p out c a j) (fun j _ => 0 ≤ j ∧ j + (rl c (p.drop (a + j).toNat) : Nat) = (rl c (p.drop a.toNat) : Nat)) (p.length - a) ?_ 0 () (by omega) ⟨Int.le_refl _, by rw [Int.add_zero, Int.zero_add]⟩
  intro j _ ⟨j0, hj⟩ hn ih
  refine EvP.step (fun k => by rw [incunableref06_Row.l1]) ?_
  rw [w64 (x := a + j) (by omega) (by omega)]
  have out1 : (rl c (p.drop (a + j).toNat) : Nat) = 0 → EvP (fun k => if out.length < 17592186044416 then incunableref06_Row.l0 k p (out ++ [j]) ((1 - c) % 256) (a + j) else none) P := fun z => by
    refine EvP.pos (by omega) ?_
    rw [show j = ((rl c (p.drop a.toNat) : Nat) : Int) by omega]
    exact h
  refine EvP.ite (fun j1 => EvP.pos (by omega) (EvP.ite (fun e => ?_) (fun e => out1 (rl_miss (by omega) j1 e)))) (fun j1 => out1 (rl_end (by omega)))
  have := rl_hit (by omega) j1 e
  rw [w64 (x := j + 1) (by omega) (by omega)]
  refine ih () (by omega) ⟨by omega, ?_⟩
  rw [show a + (j + 1) = a + j + 1 by omega]
  omega
theorem rle_nil (n : Nat) (c : Int) : rle n c [] = [] := by cases n <;> rfl
/-- How many runs are still to come at most. -/
def left (c : Int) : List Int → Nat
  | [] => 0
  | x :: xs => xs.length + 1 + if x = c then 0 else 1
theorem left_nil {c : Int} {l : List Int} (h : left c l ≤ 0) : l = [] := by
  cases l with
  | nil => rfl
  | cons x xs =>
    exfalso
    have h : xs.length + 1 + (if x = c then 0 else 1) ≤ 0 := h
    omega
theorem left_le (c : Int) (l : List Int) : left c l ≤ l.length + 1 := by
  cases l with
  | nil => exact Nat.zero_le _
  | cons x xs =>
    show xs.length + 1 + (if x = c then 0 else 1) ≤ (x :: xs).length + 1
    rw [List.length_cons]
    split <;> omega
theorem left_step {c : Int} {x : Int} {xs : List Int} (hc : c = 0 ∨ c = 1) (h01 : ∀ y ∈ x :: xs, y = 0 ∨ y = 1) : left ((1 - c) % 256) ((x :: xs).drop (rl c (x :: xs))) + 1 ≤ left c (x :: xs) := by
  have hle := rl_le c (x :: xs)
  cases e : (x :: xs).drop (rl c (x :: xs)) with
  | nil =>
    show 0 + 1 ≤ xs.length + 1 + _
    omega
  | cons y ys =>
    have hy := rl_at c _ y ys e
    have hm : y ∈ x :: xs := List.mem_of_mem_drop (show y ∈ (x :: xs).drop (rl c (x :: xs)) by rw [e]; exact List.mem_cons_self ..)
    have hy01 := h01 y hm
    have hyc : y = (1 - c) % 256 := by omega
    have hl : ys.length + 1 = (x :: xs).length - rl c (x :: xs) := by rw [← List.length_drop, e]; rfl
    rw [List.length_cons] at hl hle
    show ys.length + 1 + (if y = (1 - c) % 256 then 0 else 1) + 1 ≤ xs.length + 1 + (if x = c then 0 else 1)
    rw [if_pos hyc]
    by_cases z : x = c
    · rw [if_pos z]
      have : rl c (x :: xs) = rl c xs + 1 := by
        show (if x = c then _ else _) = _
        rw [if_pos z]
      omega
    · rw [if_neg z]
      omega
theorem flip01 {c : Int} (hc : c = 0 ∨ c = 1) : (1 - c) % 256 = 0 ∨ (1 - c) % 256 = 1 := by omega
theorem row_is (p : List Int) (hp : (p.length : Int) ≤ 200) (h01 : ∀ y ∈ p, y = 0 ∨ y = 1) : ∀ (n : Nat) (out : List Int) (c a : Int), (c = 0 ∨ c = 1) → 0 ≤ a → a ≤ p.length → out.length + n ≤ 300 → left c (p.drop a.toNat) ≤ n →
    (EvP (fun k => runs_row.l0 k p out c a) (· = out ++ rle n c (p.drop a.toNat))) ∧ (EvP (fun k => incunableref06_Row.l0 k p out c a) (· = out ++ rle n c (p.drop a.toNat))) := by
  intro n
  induction n with
  | zero =>
    intro out c a hc a0 a1 ho hn
    have e : ¬ a < (p.length : Int) := fun z => by
      have := congrArg List.length (left_nil hn)
      rw [List.length_drop] at this
      have : p.length - a.toNat = 0 := this
      omega
    refine ⟨?_, ?_⟩
    · refine EvP.step (fun k => by rw [runs_row.l0]) ?_
      refine EvP.neg e (EvP.ret ?_)
      rw [rle, List.append_nil]
    · refine EvP.step (fun k => by rw [incunableref06_Row.l0]) ?_
      refine EvP.neg e (EvP.ret ?_)
      rw [rle, List.append_nil]
  | succ n ih =>
    intro out c a hc a0 a1 ho hn
    by_cases e : a < (p.length : Int)
    · have hd := drop_rd a0 e
      have hle := rl_le c (p.drop a.toNat)
      rw [List.length_drop] at hle
      have hs := left_step (c := c) (x := rd p a) (xs := p.drop (a + 1).toNat) hc (fun y hy => h01 y (List.mem_of_mem_drop (show y ∈ p.drop a.toNat by rw [hd]; exact hy)))
      rw [← hd, drop2 a0] at hs
      have er : rle (n + 1) c (p.drop a.toNat) = ((rl c (p.drop a.toNat) : Nat) : Int) :: rle n ((1 - c) % 256) (p.drop (a + (rl c (p.drop a.toNat) : Nat)).toNat) := by
        rw [← drop2 a0, hd]
        rfl
      obtain ⟨i1, i2⟩ := ih (out ++ [((rl c (p.drop a.toNat) : Nat) : Int)]) ((1 - c) % 256) (a + (rl c (p.drop a.toNat) : Nat)) (flip01 hc) (by omega) (by omega) (by rw [List.length_append]; show out.length + 1 + n ≤ 300; omega) (by omega)
      rw [List.append_assoc] at i1 i2
      rw [er]
      refine ⟨?_, ?_⟩
      · refine EvP.step (fun k => by rw [runs_row.l0]) ?_
        refine EvP.pos e ?_
        exact row_in p out c a _ (by omega) hp a0 a1 i1
      · refine EvP.step (fun k => by rw [incunableref06_Row.l0]) ?_
        refine EvP.pos e ?_
        exact refRow_in p out c a _ (by omega) hp a0 a1 i2
    · refine ⟨?_, ?_⟩
      · refine EvP.step (fun k => by rw [runs_row.l0]) ?_
        refine EvP.neg e (EvP.ret ?_)
        rw [drop_end (by omega), rle_nil, List.append_nil]
      · refine EvP.step (fun k => by rw [incunableref06_Row.l0]) ?_
        refine EvP.neg e (EvP.ret ?_)
        rw [drop_end (by omega), rle_nil, List.append_nil]
/-- The runs of a row come back. -/
theorem fr_rle (w : Int) : ∀ (n : Nat) (i : Int) (out : List Int) (l : List Int), 0 ≤ i → (∀ y ∈ l, y = 0 ∨ y = 1) → left (Int.tmod i 2 % 256) l ≤ n → (out.length : Int) + l.length = w → (0 < i → l ≠ [] → l.head? = some (Int.tmod i 2 % 256)) → fr w i out (rle n (Int.tmod i 2 % 256) l) = some (out ++ l) := by
  intro n
  induction n with
  | zero =>
    intro i out l i0 h01 hn hw hh
    have e : l = [] := left_nil hn
    subst e
    show (if _ then _ else _) = _
    rw [if_pos (by simpa using hw), List.append_nil]
  | succ n ih =>
    intro i out l i0 h01 hn hw hh
    cases l with
    | nil =>
      show (if _ then _ else _) = _
      rw [if_pos (by simpa using hw), List.append_nil]
    | cons x xs =>
      have hs := left_step (x := x) (xs := xs) (par i i0) h01
      have hle := rl_le (Int.tmod i 2 % 256) (x :: xs)
      have hnext : (1 - Int.tmod i 2 % 256) % 256 = Int.tmod (i + 1) 2 % 256 := by
        rw [Int.tmod_eq_emod_of_nonneg i0, Int.tmod_eq_emod_of_nonneg (by omega)]
        omega
      have pos : 0 < i → 0 < rl (Int.tmod i 2 % 256) (x :: xs) := fun z => by
        have := Option.some.inj (hh z (by simp))
        show 0 < (if x = _ then _ else _)
        rw [if_pos this]
        omega
      show (if _ then _ else _) = _
      have hl : ((x :: xs).length : Int) = xs.length + 1 := by rw [List.length_cons]; omega
      rw [if_neg (by omega), hnext]
      rw [hnext] at hs
      have ht : (((rl (Int.tmod i 2 % 256) (x :: xs) : Nat) : Int)).toNat = rl (Int.tmod i 2 % 256) (x :: xs) := by omega
      rw [ht, ← rl_take, ih (i + 1) _ _ (by omega) (fun y hy => h01 y (List.mem_of_mem_drop hy)) (by omega) ?_ ?_, List.append_assoc, List.take_append_drop]
      · rw [List.length_append, List.length_take, List.length_drop]; omega
      · intro _ hne
        cases e : (x :: xs).drop (rl (Int.tmod i 2 % 256) (x :: xs)) with
        | nil => exact absurd e hne
        | cons y ys =>
          have hy := rl_at _ _ y ys e
          have hy01 := h01 y (List.mem_of_mem_drop (show y ∈ (x :: xs).drop (rl (Int.tmod i 2 % 256) (x :: xs)) by rw [e]; exact List.mem_cons_self ..))
          have := par i i0
          show some y = some _
          rw [← hnext]
          congr 1
          omega
theorem isRow06_is (l : List Int) (hb : ∀ x ∈ l, 0 ≤ x) (hl : (l.length : Int) ≤ 9223372036854775806) : EvP (fun k => incunablelaw06_isRow.f k l) (· = decide ((l.length : Int) ≤ 200 ∧ ∀ x ∈ l, x ≤ 1)) := by
  unfold incunablelaw06_isRow.f
  refine EvP.ite (fun a => ?_) (fun a => EvP.ret (decide_eq_false (fun z => a z.1)).symm)
  have row : EvP (fun k => incunableref06_IsRow.f k l) (· = decide (∀ x ∈ l, x ≤ 1)) := by
    unfold incunableref06_IsRow.f
    refine EvP.up (L := fun k i (_ : Unit) => incunableref06_IsRow.l0 k l (l.length : Int) i) (fun i _ => 0 ≤ i ∧ ∀ j, 0 ≤ j → j < i → rd l j ≤ 1) l.length ?_ 0 () (by omega) ⟨by omega, fun j a b => by omega⟩
    intro i _ ⟨i0, hi⟩ hn ih
    refine EvP.step (fun k => by rw [incunableref06_IsRow.l0]) ?_
    refine EvP.ite (fun i1 => EvP.pos i0 (EvP.pos i1 (EvP.ite (fun c => EvP.ret ?_) (fun c => ?_)))) (fun i1 => EvP.ret ?_)
    · exact (decide_eq_false (fun z => by have := z _ (rd_mem i0 i1); omega)).symm
    · rw [w64 (x := i + 1) (by omega) (by omega)]
      refine ih () i1 ⟨by omega, fun j a b => ?_⟩
      by_cases z : j = i
      · subst z; omega
      · exact hi j a (by omega)
    · refine (decide_eq_true (fun x hx => ?_)).symm
      obtain ⟨n, hn', rfl⟩ := List.getElem_of_mem hx
      have := hi n (by omega) (by omega)
      rw [rd_get l n hn'] at this
      exact this
  refine EvP.bind row ?_
  rintro _ rfl
  exact EvP.ret (decide_eq_decide.mpr ⟨fun z => ⟨a, z⟩, fun z => z.2⟩)
theorem runsIsRow_is (l : List Int) (hl : (l.length : Int) ≤ 9223372036854775806) : EvP (fun k => runs_isRow.f k l) (· = decide ((l.length : Int) ≤ 200 ∧ ∀ x ∈ l, x ≤ 1)) := by
  unfold runs_isRow.f
  refine EvP.ite (fun a => ?_) (fun a => EvP.ret (decide_eq_false (fun z => a z.1)).symm)
  have row : EvP (fun k => slices_ContainsFunc_byte_byte_65.f k l) (· = decide (¬ ∀ x ∈ l, x ≤ 1)) := by
    unfold slices_ContainsFunc_byte_byte_65.f slices_IndexFunc_byte_byte_65.f
    refine EvP.bind (Q := fun r => (0 ≤ r ↔ ¬ ∀ x ∈ l, x ≤ 1)) ?_ ?_
    · refine EvP.up (L := fun k i (_ : Unit) => slices_IndexFunc_byte_byte_65.l0 k l (l.length : Int) i) (fun i _ => 0 ≤ i ∧ ∀ j, 0 ≤ j → j < i → rd l j ≤ 1) l.length ?_ 0 () (by omega) ⟨by omega, fun j a b => by omega⟩
      intro i _ ⟨i0, hi⟩ hn ih
      refine EvP.step (fun k => by rw [slices_IndexFunc_byte_byte_65.l0]) ?_
      refine EvP.ite (fun i1 => EvP.pos i0 (EvP.pos i1 (EvP.bindv (runs_isRow_1.f.eq_1 _) (EvP.ite (fun c => EvP.ret ?_) (fun c => ?_))))) (fun i1 => EvP.ret ?_)
      · have c := of_decide_eq_true c
        exact ⟨fun _ z => by have := z _ (rd_mem i0 i1); omega, fun _ => i0⟩
      · have c : ¬ rd l i > 1 := fun z => c (decide_eq_true z)
        rw [w64 (x := i + 1) (by omega) (by omega)]
        refine ih () i1 ⟨by omega, fun j a b => ?_⟩
        by_cases z : j = i
        · subst z; omega
        · exact hi j a (by omega)
      · refine ⟨fun z => absurd z (by decide), fun z => absurd (fun x hx => ?_) z⟩
        obtain ⟨n, hn', rfl⟩ := List.getElem_of_mem hx
        have := hi n (by omega) (by omega)
        rw [rd_get l n hn'] at this
        exact this
    · intro r hr
      exact EvP.ret (decide_eq_decide.mpr hr)
  refine EvP.bind row ?_
  rintro _ rfl
  refine EvP.ret ?_
  by_cases z : ∀ x ∈ l, x ≤ 1
  · rw [decide_eq_true (show (l.length : Int) ≤ 200 ∧ ∀ x ∈ l, x ≤ 1 from ⟨a, z⟩), decide_eq_false (fun y => y z)]
    rfl
  · rw [decide_eq_false (show ¬ ((l.length : Int) ≤ 200 ∧ ∀ x ∈ l, x ≤ 1) from fun y => z y.2), decide_eq_true z]
    rfl
theorem RunsRow : incunablelaw06_RunsRow.Pure := by
  intro p hl
  have hl1 : (p.length : Int) ≤ 9223372036854775806 := by have := hl.2.1; omega
  have hb : ∀ x ∈ p, 0 ≤ x := fun x hx => (wf_byt hl.2.2 x hx).1
  refine EvP.rounds ?_
  unfold incunablelaw06_RunsRow.f runs_Row.f
  by_cases ok : (p.length : Int) ≤ 200 ∧ ∀ x ∈ p, x ≤ 1
  · have h01 : ∀ y ∈ p, y = 0 ∨ y = 1 := fun y hy => by have := hb y hy; have := ok.2 y hy; omega
    have hleft : left 0 p ≤ 201 := by
      have := ok.1
      have := left_le 0 p
      omega
    obtain ⟨r1, r2⟩ := row_is p ok.1 h01 201 [] 0 0 (.inl rfl) (by omega) (by omega) (by decide) hleft
    have e0 : p.drop ((0 : Int)).toNat = p := rfl
    rw [List.nil_append, e0] at r1 r2
    have hf := fr_rle p.length 201 0 [] p (by omega) h01 (by rw [show Int.tmod 0 2 % 256 = 0 from rfl]; exact hleft) (by simp) (fun z => absurd z (by decide))
    rw [show Int.tmod 0 2 % 256 = 0 from rfl, List.nil_append] at hf
    have hrl : (rle 201 0 p).length ≤ 201 := by
      have key : ∀ (n : Nat) (c : Int) (l : List Int), (rle n c l).length ≤ n := by
        intro n
        induction n with
        | zero => intro c l; exact Nat.le_refl _
        | succ n ih =>
          intro c l
          cases l with
          | nil => exact Nat.zero_le _
          | cons x xs => exact Nat.succ_le_succ (ih _ _)
      exact key _ _ _
    refine EvP.bind (Q := (· = (rle 201 0 p, 0))) ?_ ?_
    · refine EvP.bind (runsIsRow_is p hl1) ?_
      rintro _ rfl
      refine EvP.pos (decide_eq_true ok) ?_
      unfold runs_row.f
      refine EvP.bind r1 ?_
      rintro _ rfl
      exact EvP.ret rfl
    · rintro _ rfl
      refine EvP.bind (isRow06_is p hb hl1) ?_
      rintro _ rfl
      refine EvP.pos (decide_eq_true ok) (EvP.pos rfl ?_)
      unfold incunableref06_Row.f
      refine EvP.bind r2 ?_
      rintro _ rfl
      refine EvP.bind (SameInts06_is (rle 201 0 p) (by omega)) ?_
      rintro _ rfl
      refine EvP.step (fun k => by rw [incunablelaw06_RunsRow.j0]) ?_
      refine EvP.neg (by decide) ?_
      refine EvP.bind (FromRow_is (rle 201 0 p) p.length (by omega) (by omega) ok.1) ?_
      rintro _ rfl
      rw [hf]
      refine EvP.pos rfl ?_
      refine EvP.bind (SameBytes06_is p hl1) ?_
      rintro _ rfl
      refine EvP.pos rfl ?_
      refine EvP.bind Awake06_is ?_
      rintro _ rfl
      exact EvP.ret rfl
  · refine EvP.bind (Q := (· = ([], 2))) ?_ ?_
    · refine EvP.bind (runsIsRow_is p hl1) ?_
      rintro _ rfl
      exact EvP.neg (by rw [decide_eq_true_iff]; exact ok) (EvP.ret rfl)
    · rintro _ rfl
      refine EvP.bind (isRow06_is p hb hl1) ?_
      rintro _ rfl
      refine EvP.neg (by rw [decide_eq_true_iff]; exact ok) (EvP.pos rfl (EvP.pos rfl ?_))
      refine EvP.bind Awake06_is ?_
      rintro _ rfl
      exact EvP.ret rfl

end Go.Proofs.YtknclbodinfbeaaDoor.Pure
